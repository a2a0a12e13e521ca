/- Contracts of Go functions: each call returns what the Lean function beside it computes. Conditions: as each theorem states them. -/
import Derived.Test.YthejdhjpbpamoaaGreatDoorPkFnMoves
import Derived.Test.YthejdhjpbpamoaaGreatDoorPFnMovesx1
import Derived.Test.YthejdhjpbpamoaaGreatDoorPFnMovesx3
import Derived.Test.YthejdhjpbpamoaaGreatDoorPFnMovesx4
import Derived.Test.YthejdhjpbpamoaaGreatDoorPFnMovesx10
namespace Go.Proofs.YthejdhjpbpamoaaGreatDoor.jM
open Go.RowKit Go.Proofs.YthejdhjpbpamoaaGreatDoorW.iK Go.Proofs.YthejdhjpbpamoaaGreatDoorW.lX Go.Proofs.YthejdhjpbpamoaaGreatDoorW.oV Go.Proofs.Tryz
attribute [local go_sem] qI qM qL qP qK qO qJ qN   -- for this text's walks alone
set_option linter.unusedVariables false
set_option maxHeartbeats 8000000
set_option maxRecDepth 100000
set_option linter.unusedSimpArgs false

mutual
def lq.j0:Nat→ByteArray→Bool→List (aC)→Int→ByteArray→ByteArray→Int→Int→ByteArray→Option ((List (aC)) × Int × ByteArray × Int × Bool × List ByteArray)
 | 0,_,_,_,_,_,_,_,_,_=>none
 | k+1,a9,aN,a7,ab,ac,ae,aa,a5,af=>if aN=true then ((pY.f a7).bind fun ag=>((lU.f 12).bind fun a8=>(some (ag,a8.1,a8.2.1,a8.2.2.1,a8.2.2.2.1,a8.2.2.2.2)))) else ((u_.f k aa 0 (a9.size:Int)).bind fun a6=>(if a5 < (wrap64 ((a9.size:Int) - a6)) then ((pY.f a7).bind fun aP=>(if 0≤a6 then (if a6≤(wrap64 (a6+a5)) then (if (wrap64 (a6+a5))≤(a9.size:Int) then (some (aP,0,a9.extract (a6:Int).toNat ((wrap64 (a6+a5)):Int).toNat,0,false,([]:List ByteArray))) else (none)) else (none)) else (none))) else ((pY.f a7).bind fun ai=>(if 0≤a6 then (if a6≤(a9.size:Int) then (if (a9.size:Int)≤(a9.size:Int) then (some (ai,0,a9.extract (a6:Int).toNat ((a9.size:Int):Int).toNat,0,false,([]:List ByteArray))) else (none)) else (none)) else (none)))))
def lq.j1:Nat→Int→ByteArray→Bool→Int→Int→Int→Int→List (aC)→Int→ByteArray→ByteArray→Int→Int→ByteArray→Option ((List (aC)) × Int × ByteArray × Int × Bool × List ByteArray)
 | 0,_,_,_,_,_,_,_,_,_,_,_,_,_,_=>none
 | k+1,x2,am,an,aa,ab,ac,ae,a7,ag,aP,ai,af,aN,a8=>if an=true then ((pY.f a7).bind fun aT=>((lU.f 12).bind fun a5=>(some (aT,a5.1,a5.2.1,a5.2.2.1,a5.2.2.2.1,a5.2.2.2.2)))) else ((tC.f k am af a8).bind fun al=>((xu.f k aa ab ac ae a7 x2 al).bind fun a9=>(if a9.2=0 then (some (a9.1,0,(⟨#[]⟩:ByteArray),(a8.size:Int),false,([]:List ByteArray))) else ((lU.f a9.2).bind fun a6=>(some (a9.1,a6.1,a6.2.1,a6.2.2.1,a6.2.2.2.1,a6.2.2.2.2))))))
end
def lq.f (k:Nat) (ag:Int) (aP:Int) (ai:Int) (aN:Int) (a5:List (aC)) (a2:Int) (aa:Int) (ac:ByteArray) (ae:ByteArray) (a8:Int) (a9:Int) (ab:ByteArray):Option ((List (aC)) × Int × ByteArray × Int × Bool × List ByteArray):=if 0≤a2 then (if a2 < (a5.length:Int) then (if aa=6 then (if a8 < 0 then (lq.j0 k ((au a5 a2).f2) true a5 aa ac ae a8 a9 ab) else (lq.j0 k ((au a5 a2).f2) (decide (a9 < 0)) a5 aa ac ae a8 a9 ab)) else (if aa=7 then (if a8 < 0 then (lq.j1 k a2 ((au a5 a2).f2) true ag aP ai aN a5 aa ac ae a8 a9 ab) else (lq.j1 k a2 ((au a5 a2).f2) (decide (a8 > (wrap64 (128 - (ab.size:Int))))) ag aP ai aN a5 aa ac ae a8 a9 ab)) else ((mZ.f a9 0 128).bind fun aT=>(if aT=true then ((BH.f k ((au a5 a2).f2) a9).bind fun al=>((xu.f k ag aP ai aN a5 a2 al).bind fun af=>((lU.f af.2).bind fun a6=>(some (af.1,a6.1,a6.2.1,a6.2.2.1,a6.2.2.2.1,a6.2.2.2.2))))) else ((pY.f a5).bind fun am=>((lU.f 12).bind fun a7=>(some (am,a7.1,a7.2.1,a7.2.2.1,a7.2.2.2.1,a7.2.2.2.2)))))))) else (none)) else (none)
def lq.T10:Bool × List (List Nat × List Nat):=(true,[([],[]),([0],[0]),([],[]),([],[]),([],[]),([2,3,4],[2,3,4]),([5],[5]),([1,1,0,1],[1]),([6,7,0,1,2,3,4,5,6,7],[6])])
def lq.B10:List Nat:=[0,1,0,0,0,28,60,3,255]
theorem lq.IE:kZ .any (opsOf Tryz.f79 10)=lq.T10:=by kernel_rfl
theorem lq.Gm:sF lq.T10.2 lq.B10=true:=by kernel_rfl
def lq.Yt:Bool × List (List Nat × List Nat):=(true,[([],[]),([],[]),([],[]),([],[]),([],[]),([4],[4]),([],[]),([6],[6]),([3,5,7],[3,5,7]),([0,1,2,8,8],[0,1,2,8]),([9],[9]),([10],[10]),([10],[10]),([],[]),([13,11,9,0,1,2,3,4,5,6,7,8,9,10,11,13],[11,13]),([12,14,0,1,2,3,4,5,6,7,8,9,10,11,12,13,14],[12])])
def lq.XH:List Nat:=[0,0,0,0,0,16,0,64,248,511,1023,2047,2047,0,12287,32767]
def lq.Yv:Bool × List (List Nat × List Nat):=(true,[([],[]),([],[]),([],[]),([],[]),([],[]),([4],[4]),([3,5],[3,5]),([0,1,2,6,6],[0,1,2,6]),([7],[7]),([8],[8]),([8],[8]),([],[]),([11,9,7,0,1,2,3,4,5,6,7,8,9,11],[9,11]),([10,12,0,1,2,3,4,5,6,7,8,9,10,11,12],[10])])
def lq.XJ:List Nat:=[0,0,0,0,0,16,56,127,255,511,511,0,3071,8191]
theorem lq.calls (k:Nat) (b8:Int) (b9:Int) (ba:Int) (bb:Int) (fe:Option Addr) (bc:Nat) (aK:List (aC)) (a2:Int) (cq:Int) (cr:ByteArray) (ct:ByteArray) (bh:Int) (bi:Int) (cc:ByteArray) (r1:List (aC)) (r2:Int) (r3:ByteArray) (r4:Int) (r5:Bool) (r6:List ByteArray) (w:World) (en:Kd.C bF w fe aK.length aK) (eo:aK.length≤bc) (h:lq.f k b8 b9 ba bb aK a2 cq cr ct bh bi cc=some (r1,r2,r3,r4,r5,r6)) :
  Calls Tryz.prog 79 #[.agg #[ah b8,ah b9,ah ba,ah bb],.agg #[.slice fe aK.length bc],ah a2,.agg #[ah cq,.string cr,.string ct,ah bh,ah bi,.string cc]] w fun e w'=>∃ gQ y5:Value,e=.returned (.tuple #[.agg #[gQ],.agg #[ah r2,.string r3,ah r4,.bool r5,y5]])∧Kd.R bF 43 w' w.heap.size (fun _=>True) gQ r1∧Kd.R Kd.string 9 w' w.heap.size (fun _=>True) y5 r6∧Below w.heap.size w w':=by
 have w_:=underlying25
 have oq:=underlying28
 have Hy:=underlying45
 have JL:=underlying49
 have rC:=m_ en
 have d3:=m_ eo
 clear en eo
 have HB:=m_ (Below.refl w.heap.size w)
 unfold lq.f at h
 have H:=h
 clear h
 obtain ⟨JR,H⟩:=fU H
 obtain ⟨js,H⟩:=fU H
 have lp:=m_ H
 clear H
 go_enter func79,ntmps79
 go_upto_if 25 with (first|((with_reducible refine dG 4 ?_);(try (refine oh (by rfl) ?_;dsimp only));refine dU 4 (cs:=#[ah b8,ah b9,ah ba,ah bb]) 25 ?_;intro af hg w8 hbox hb;obtain ⟨HB,a7,Fb,lr⟩:=kE ay hb hbox hg;clear hb hbox hg)|((with_reducible refine dG 5 ?_);(try (refine oh (by rfl) ?_;dsimp only));refine dU 5 (cs:=#[.slice fe aK.length bc]) 28 ?_;intro aw hg w9 hbox hb;obtain ⟨a7,HB,a5,ls,Ij,d4,d5⟩:=qj (aj a7) ay hb hbox hg;clear hb hbox hg)|((with_reducible refine dG 7 ?_);(try (refine oh (by rfl) ?_;dsimp only));refine dU 7 (cs:=#[ah cq,.string cr,.string ct,ah bh,ah bi,.string cc]) 45 ?_;intro a9 hg mn hbox hb;obtain ⟨a7,a5,HB,a6,lv,lw,bo,bp,ax,dw⟩:=wu (aj a7) (aj a5) ay hb hbox hg;clear hb hbox hg)|((with_reducible refine dG 8 ?_);(try (refine oh (by rfl) ?_;dsimp only));refine dU 8 (cs:=#[.slice none 0 0]) 28 ?_;intro an hg mo hbox hb;obtain ⟨a7,a5,a6,HB,eu,lx,ly,bq,br,az,bd,ab,aP⟩:=yF (aj a7) (aj a5) (aj a6) ay hb hbox hg;clear hb hbox hg)|((with_reducible refine dG 9 ?_);(try (refine oh (by rfl) ?_;dsimp only));refine dU 9 (cs:=#[ah 0,.string (⟨#[]⟩:ByteArray),ah 0,.bool false,.slice none 0 0]) 49 ?_;intro aa hg ei hbox hb;obtain ⟨a7,a5,a6,eu,HB,dh,lz,m0,bs,bu,ac,be,a8,ai,bv,bw⟩:=zQ (aj a7) (aj a5) (aj a6) (aj eu) ay hb hbox hg;clear hb hbox hg;obtain ⟨d6,d7,b0,b1,cd,ce,cf,cg⟩:=i_ d5 d4 ax dw az bd ac be;have Qj:=cu a5.out;have e6:0≤(a2:Int):=bC bD;have e7:a2 < (aK.length:Int):=bC bD;obtain ⟨aq,jt,d8,d9,da⟩:=jP rC.out a2 e6 e7;cases jt;replace d8:=gu HB.out d8;replace d9:=gu HB.out d9;replace da:=gu HB.out da;replace e6:=eq_true e6;replace e7:=eq_true e7;obtain ⟨bl,bm,aN,aT,al,am⟩:=kL bp bo ab aP a8 ai;have e8:=jV a6.out))
 (try simp only [Act.put,List.setIfInBounds_toArray,List.set_cons_zero,List.set_cons_succ])
 (try clear d7 bm d6 b0 cd cf bl b1 aN al ce aT cg am)
 (try clear Qj)
 (try clear e8)
 (try clear Qj)
 (try clear d8 d9 da)
 obtain ⟨H⟩:=lp
 revert H;refine fJ (fun ej H=>?_) fun ej H=>?_
 ·have db:=gZ ej
  have e9:=g_ ej
  clear ej
  try simp only [bI,bY,db]
  have ff:=m_ H
  clear H
  go_upto_region 4 with (fail)
  go_cut [34] (fun v34 wc=>∃ (kq:Nat) (dq:Bool),v34=.bool dq∧aA (lq.j0 kq ((au aK a2).f2) dq aK cq cr ct bh bi cc=some (r1,r2,r3,r4,r5,r6))∧aA (kq≤k)∧aA (wc.heap[af]?=some (.cells #[ah b8,ah b9,ah ba,ah bb] 25))∧aA (wc.heap[aw]?=some (.cells #[(.slice (some aq) aK.length bc)] 28))∧aA (wc.heap[a9]?=some (.cells #[ah cq,.string cr,.string ct,ah bh,ah bi,.string cc] 45))∧aA (wc.heap[an]?=some (.cells #[(.slice none 0 0)] 28))∧aA (wc.heap[aa]?=some (.cells #[ah 0,.string (⟨#[]⟩:ByteArray),ah 0,.bool false,(.slice none 0 0)] 49))∧aA (Below w.heap.size w wc))
  case first =>
   obtain ⟨H⟩:=ff
   revert H;refine gI (fun di H=>?_) fun di H=>?_
   ·try simp only [bI,bY,di]
    have H':=m_ H
    clear H
    obtain ⟨bl,bm,b1,b0,aN,aT,al,am⟩:=i_ bp bo dw ax ab aP a8 ai
    have fh:=jV a6.out
    go_wp2
    go_meet
    case rel=>exact ⟨_,(true),bg,H',⟨kH⟩,⟨(aj a7)⟩,⟨(aj a5)⟩,⟨(aj a6)⟩,⟨(aj eu)⟩,⟨(aj dh)⟩,⟨ay⟩⟩
   try simp only [bI,bY,di]
   have H':=m_ H
   clear H
   obtain ⟨bl,bm,b1,b0,aN,aT,al,am⟩:=i_ bp bo dw ax ab aP a8 ai
   have ek:=jV a6.out
   go_wp2
   go_meet
   case rel=>exact ⟨_,(decide (bi < 0)),bg,H',⟨kH⟩,⟨(aj a7)⟩,⟨(aj a5)⟩,⟨(aj a6)⟩,⟨(aj eu)⟩,⟨(aj dh)⟩,⟨ay⟩⟩
  case rest =>
  clear ff
  try clear c5;try clear JR;try clear c6;try clear js;try clear ej;try clear db;try clear e9;try clear e6;try clear e7
  obtain ⟨kq,dq,rfl,HA,adO,a7,a5,a6,eu,dh,HB⟩:=hcut
  cases kq with
  | zero=>exact absurd HA.out (by simp [lq.j0])
  | succ aa8 =>
  obtain ⟨H⟩:=HA
  simp only [lq.j0] at H
  by_cases ft:dq=true
  ·subst ft
   rw [if_pos rfl] at H
   obtain ⟨fu,m4,H⟩:=bd_ H
   obtain ⟨⟨fw,fx,fy,fz,g6⟩,m5,H⟩:=bd_ H
   try dsimp -simprocs only at H
   simp only [Option.some.injEq,Prod.mk.injEq] at H
   obtain ⟨rfl,rfl,rfl,rfl,rfl,rfl⟩:=H
   obtain ⟨d6,d7,b0,b1,cd,ce,cf,cg⟩:=i_ d5 d4 ax dw az bd ac be
   have akF:=cu a5.out
   go_wp2_with (first|((with_reducible refine bU 73 ?_);refine bV (some 36) rfl rfl func73 aB rfl #[.agg #[.slice (some aq) aK.length bc]] rfl aW ?_;(with_reducible refine (pY.calls _ _ aK fu _ l9 d3.out m4.out).mono ?_);rintro e n5 ⟨aiY,rfl,ho0,hb⟩;refine ⟨_,rfl,?_⟩;obtain ⟨lZ,a7,a5,a6,eu,dh,HB⟩:=p_ (Kd.dK ho0 (dO ay)) <| nM (aj a7) (aj a5) (aj a6) (aj eu) (aj dh) ay hb;(try clear hb);(try clear ho0))|((with_reducible refine bU 75 ?_);refine bV (some 37) rfl rfl func75 aB rfl #[ah 12] rfl aW ?_;(with_reducible refine (lU.calls 12 fw fx fy fz g6 _ m5.out).mono ?_);rintro e n7 ⟨aiZ,rfl,ho0,hb⟩;refine ⟨_,rfl,?_⟩;obtain ⟨lZ,ep,a7,a5,a6,eu,dh,HB⟩:=p_ (Kd.bn (aG lZ) hb) <| p_ (Kd.dK ho0 (dO ay)) <| nM (aj a7) (aj a5) (aj a6) (aj eu) (aj dh) ay hb;(try clear hb);(try clear ho0);obtain ⟨ju,DI,Ib⟩:=Kd.dJ lZ.out;subst Ib;obtain ⟨jg,cv,aT,aN,cw,cx⟩:=kL br bq aP ab bv bw;have adp:=cu eu.out;obtain ⟨cy,cz,am,al⟩:=jE bu bs ai a8;have g7:=vZ dh.out;obtain ⟨jx,Ic,jz⟩:=Kd.dJ ep.out;subst jz))
   refine bodyPost_ret (nD rfl _ _ an aa 28 49 #[.slice ju fu.length DI] #[ah fw,.string fx,ah fy,.bool fz,.slice jx g6.length Ic] (0,0) (0,0) _ _ rfl bH underlying28 rfl aB rfl bH underlying49 rfl aB) rfl ?_
   exact ⟨_,_,b_,(by (with_reducible repeat (first|apply Kd.dR|apply Kd.dS|apply Kd.bK));exact Kd.bW (aU (aU (aU (aU (aU (aU (Kd.dL (Kd.dL lZ.out eu.out (by decide)) dh.out (by decide)) (fun _ hk=>hk.1.2))))))) (fun _ hk=>trivial)),(by (with_reducible repeat (first|apply Kd.dR|apply Kd.dS|apply Kd.bK));exact Kd.bW (aU (aU (aU (aU (aU (aU (Kd.dL (Kd.dL ep.out eu.out (by decide)) dh.out (by decide)) (fun _ hk=>hk.1.2))))))) (fun _ hk=>trivial)),ay⟩
  replace ft:=Bool.eq_false_iff.mpr ft
  subst ft
  rw [if_neg iO] at H
  obtain ⟨ea,m6,H⟩:=bd_ H
  have g8:=m_ H
  clear H
  obtain ⟨bl,bm,b1,b0,aN,aT,al,am⟩:=i_ bp bo dw ax ab aP a8 ai
  have fi:=jV a6.out
  go_upto_if 50 with (first|((with_reducible refine bU 123 ?_);refine bV (some 42) rfl rfl func123 aB rfl #[ah bh,ah 0,ah (((au aK a2).f2).size:Int)] rfl aW ?_;(with_reducible refine (u_.calls aa8 bh 0 (((au aK a2).f2).size:Int) ea _ m6.out).mono ?_);rintro e w' ⟨rfl,⟨nd,rfl⟩⟩;refine ⟨_,rfl,?_⟩))
  (try simp only [Act.put,List.setIfInBounds_toArray,List.set_cons_zero,List.set_cons_succ])
  (try clear bm b0 bl b1 aN al aT am)
  (try clear fi)
  obtain ⟨H⟩:=g8
  revert H;refine gI (fun dj H=>?_) fun dj H=>?_
  rotate_left
  ·try simp only [bI,bY,dj]
   obtain ⟨g9,m7,H⟩:=bd_ H
   obtain ⟨ga,gc,H⟩:=kT H
   obtain ⟨gd,gf,H⟩:=kT H
   obtain ⟨gh,gi,H⟩:=kT H
   simp only [Option.some.injEq,Prod.mk.injEq] at H
   obtain ⟨rfl,rfl,rfl,rfl,rfl,rfl⟩:=H
   try go_wp2
   (try (rw [GK wc];generalize kV:World.drewN wc _=wc;have eP:=fM (⟨(by rw [← kV];exact (aj a7))⟩:aA (wc.heap[af]?=some (.cells #[ah b8,ah b9,ah ba,ah bb] 25))) <| fM (⟨(by rw [← kV];exact (aj a5))⟩:aA (wc.heap[aw]?=some (.cells #[.slice (some aq) aK.length bc] 28))) <| fM (⟨(by rw [← kV];exact (aj a6))⟩:aA (wc.heap[a9]?=some (.cells #[ah cq,.string cr,.string ct,ah bh,ah bi,.string cc] 45))) <| fM (⟨(by rw [← kV];exact (aj eu))⟩:aA (wc.heap[an]?=some (.cells #[.slice none 0 0] 28))) <| fM (⟨(by rw [← kV];exact (aj dh))⟩:aA (wc.heap[aa]?=some (.cells #[ah 0,.string (⟨#[]⟩:ByteArray),ah 0,.bool false,.slice none 0 0] 49))) <| (⟨(by rw [← kV];exact ay)⟩:aA (Below w.heap.size w wc));clear a7 a5 a6 eu dh HB kV;obtain ⟨a7,a5,a6,eu,dh,HB⟩:=eP))
   obtain ⟨a7,a5,a6,eu,dh,HB⟩:=yG a7 a5 a6 eu dh HB
   refine iH (n:=9) (S:=fun w'=>w'.cell? ⟨aw,0,none⟩=some (.slice (some aq) aK.length bc)) (ds:=[]) Gq aB rfl rfl ((aO a5.out 0).trans rfl) (fun hH=>?_);refine jC lq.IE lq.Gm (fun aS gJ=>?_)
   generalize wc.drew=n8 at a7 a5 a6 eu dh HB hH ⊢
   refine eY 2 57 RG aS ?_
   refine eY 3 58 RV aS ?_
   refine eY 4 59 RX aS ?_
   refine eY 5 60 RY aS ?_
   refine eY 6 61 RZ aS ?_
   refine ng (i:=0) (N:=some 55) (v:=?_) (a':=?_) R_ rfl rfl (AA aS.out gJ.out aB) (fun _ _ _ h=>h) (Or.inl ⟨(by rfl),?_⟩) hH ?_ ?_
   rotate_left
   ·intro w' s0
    go_simp
    with_reducible rfl
   rotate_left
   ·simp only [Act.put,List.setIfInBounds_toArray,List.set_cons_zero,List.set_cons_succ,bI,bY]
    rfl
   refine gB (i:=1) (N:=some 56) SG rfl rfl (jW aS.out aB) (by decide) (fun K hK=>?_)
   refine iR func73 aB rfl #[.agg #[.slice (some aq) aK.length bc]] (by rfl) rfl rfl aW ?_
   with_reducible refine (pY.calls _ _ aK g9 _ l9 d3.out m7.out).mono ?_
   rintro e fq ⟨ai1,rfl,ho0,hb⟩
   refine ⟨_,rfl,?_⟩
   obtain ⟨eq,a7,a5,a6,eu,dh,HB⟩:=p_ (Kd.dK ho0 (dO ay)) <| nM (aj a7) (aj a5) (aj a6) (aj eu) (aj dh) ay hb
   (try clear hb)
   (try clear ho0)
   obtain ⟨l5,l6,gj⟩:=Kd.dJ eq.out
   (first|subst gj|(injection gj with dP fZ dQ;have f_:=dP.symm;have gq:=dQ.symm;clear dP fZ dQ;subst f_;subst gq))
   refine hK.out _ _ ((aO a5.out 0).trans rfl) (fun hH=>?_)
   clear hK K
   refine fD (some 56) ?_
   refine gB (i:=7) (N:=none) SH rfl rfl (jW aS.out aB) (by decide) (fun K hK=>?_)
   have ahV:fq.cell? ⟨an,0,none⟩=some (.slice none 0 0):=(aO eu.out 0).trans rfl
   have afW:=dF eu.out 0
   obtain ⟨cv,cd,aN,cx,jg,ce,aT,cw⟩:=i_ bq az ab bw br bd aP bv
   refine jr (w1:=?_) (by rfl) rfl ?_ ?_
   rotate_left
   ·go_simp
    rfl
   refine hK.out _ _ ((aY az hH)) (fun hH=>?_)
   clear hK K
   refine gB (i:=8) (N:=none) SI rfl rfl (jW aS.out aB) (by decide) (fun K hK=>?_)
   have ahW:fq.cell? ⟨aa,0,none⟩=some (ah 0):=(aO dh.out 0).trans rfl
   have afX:=dF dh.out 0
   obtain ⟨cz,cf,al,cy,cg,am⟩:=kL bs ac a8 bu be ai
   have ahX:fq.cell? ⟨aa,1,none⟩=some (.string (⟨#[]⟩:ByteArray)):=(aO dh.out 1).trans rfl
   have afY:=dF dh.out 1
   have ahY:fq.cell? ⟨aa,2,none⟩=some (ah 0):=(aO dh.out 2).trans rfl
   have afZ:=dF dh.out 2
   have ahZ:fq.cell? ⟨aa,3,none⟩=some (.bool false):=(aO dh.out 3).trans rfl
   have af0:=dF dh.out 3
   have ah0:fq.cell? ⟨aa,4,none⟩=some (.slice none 0 0):=(aO dh.out 4).trans rfl
   have af2:=dF dh.out 4
   refine jr (w1:=?_) (by rfl) rfl ?_ ?_
   rotate_left
   ·go_simp
    rfl
   refine hK.out _ _ ((aY ac (aY ac (aY ac (aY ac (aY ac hH)))))) (fun hH=>?_)
   clear hK K
   refine iF (jB aS.out aB) ?_
   try go_wp2
   refine bodyPost_ret (nD rfl _ _ an aa 28 49 #[.slice l5 g9.length l6] #[ah 0,.string (((au aK a2).f2).extract (ea:Int).toNat ((((au aK a2).f2).size:Int):Int).toNat),ah 0,.bool false,.slice none 0 0] (0,0) (0,0) _ _ rfl bH underlying28 rfl aB rfl bH underlying49 rfl aB) rfl ?_
   exact ⟨_,_,b_,(by (with_reducible repeat (first|apply Kd.dR|apply Kd.dS|apply Kd.bK));exact Kd.bW (aU (aU (aU (aU (aU (aU (Kd.dL (Kd.dL eq.out eu.out (by decide)) dh.out (by decide)) (fun _ hk=>hk.1.2))))))) (fun _ hk=>trivial)),tN,ay⟩
  try simp only [bI,bY,dj]
  obtain ⟨gl,m8,H⟩:=bd_ H
  obtain ⟨gm,gn,H⟩:=kT H
  obtain ⟨Ih,H⟩:=lG H
  have go:=eq_true Ih
  have gp:=lC Ih
  obtain ⟨l8,H⟩:=lG H
  have yM:=eq_true l8
  have gr:=lC l8
  simp only [Option.some.injEq,Prod.mk.injEq] at H
  obtain ⟨rfl,rfl,rfl,rfl,rfl,rfl⟩:=H
  have gs:=jV a6.out
  try go_wp2
  (try (rw [GK wc];generalize kV:World.drewN wc _=wc;have eP:=fM (⟨(by rw [← kV];exact (aj a7))⟩:aA (wc.heap[af]?=some (.cells #[ah b8,ah b9,ah ba,ah bb] 25))) <| fM (⟨(by rw [← kV];exact (aj a5))⟩:aA (wc.heap[aw]?=some (.cells #[.slice (some aq) aK.length bc] 28))) <| fM (⟨(by rw [← kV];exact (aj a6))⟩:aA (wc.heap[a9]?=some (.cells #[ah cq,.string cr,.string ct,ah bh,ah bi,.string cc] 45))) <| fM (⟨(by rw [← kV];exact (aj eu))⟩:aA (wc.heap[an]?=some (.cells #[.slice none 0 0] 28))) <| fM (⟨(by rw [← kV];exact (aj dh))⟩:aA (wc.heap[aa]?=some (.cells #[ah 0,.string (⟨#[]⟩:ByteArray),ah 0,.bool false,.slice none 0 0] 49))) <| (⟨(by rw [← kV];exact ay)⟩:aA (Below w.heap.size w wc));clear a7 a5 a6 eu dh HB kV;obtain ⟨a7,a5,a6,eu,dh,HB⟩:=eP))
  obtain ⟨a7,a5,a6,eu,dh,HB⟩:=yG a7 a5 a6 eu dh HB
  refine iH (n:=9) (S:=fun w'=>w'.cell? ⟨aw,0,none⟩=some (.slice (some aq) aK.length bc)) (ds:=[]) Gq aB rfl rfl ((aO a5.out 0).trans rfl) (fun hH=>?_);refine jC lq.IE lq.Gm (fun aS gJ=>?_)
  generalize wc.drew=n9 at a7 a5 a6 eu dh HB hH ⊢
  refine eY 2 57 RG aS ?_
  refine eY 3 58 RV aS ?_
  refine eY 4 59 RX aS ?_
  refine eY 5 60 RY aS ?_
  refine eY 6 61 RZ aS ?_
  refine ng (i:=0) (N:=some 55) (v:=?_) (a':=?_) R_ rfl rfl (AA aS.out gJ.out aB) (fun _ _ _ h=>h) (Or.inl ⟨(by rfl),?_⟩) hH ?_ ?_
  rotate_left
  ·intro w' s0
   go_simp
   with_reducible rfl
  rotate_left
  ·simp only [Act.put,List.setIfInBounds_toArray,List.set_cons_zero,List.set_cons_succ,bI,bY]
   rfl
  refine gB (i:=1) (N:=some 56) SG rfl rfl (jW aS.out aB) (by decide) (fun K hK=>?_)
  refine iR func73 aB rfl #[.agg #[.slice (some aq) aK.length bc]] (by rfl) rfl rfl aW ?_
  with_reducible refine (pY.calls _ _ aK gl _ l9 d3.out m8.out).mono ?_
  rintro e fs ⟨ai0,rfl,ho0,hb⟩
  refine ⟨_,rfl,?_⟩
  obtain ⟨er,a7,a5,a6,eu,dh,HB⟩:=p_ (Kd.dK ho0 (dO ay)) <| nM (aj a7) (aj a5) (aj a6) (aj eu) (aj dh) ay hb
  (try clear hb)
  (try clear ho0)
  obtain ⟨J5,la,gt⟩:=Kd.dJ er.out
  (first|subst gt|(injection gt with dP fZ dQ;have f_:=dP.symm;have gq:=dQ.symm;clear dP fZ dQ;subst f_;subst gq))
  refine hK.out _ _ ((aO a5.out 0).trans rfl) (fun hH=>?_)
  clear hK K
  refine fD (some 56) ?_
  refine gB (i:=7) (N:=none) SH rfl rfl (jW aS.out aB) (by decide) (fun K hK=>?_)
  have ahJ:fs.cell? ⟨an,0,none⟩=some (.slice none 0 0):=(aO eu.out 0).trans rfl
  have afK:=dF eu.out 0
  obtain ⟨cv,cd,cx,jg,ce,cw⟩:=kL bq az bw br bd bv
  refine jr (w1:=?_) (by rfl) rfl ?_ ?_
  rotate_left
  ·go_simp
   rfl
  refine hK.out _ _ ((aY az hH)) (fun hH=>?_)
  clear hK K
  refine gB (i:=8) (N:=none) SI rfl rfl (jW aS.out aB) (by decide) (fun K hK=>?_)
  have ahK:fs.cell? ⟨aa,0,none⟩=some (ah 0):=(aO dh.out 0).trans rfl
  have afL:=dF dh.out 0
  obtain ⟨cz,cf,cy,cg⟩:=jE bs ac bu be
  have ahL:fs.cell? ⟨aa,1,none⟩=some (.string (⟨#[]⟩:ByteArray)):=(aO dh.out 1).trans rfl
  have afM:=dF dh.out 1
  have ahM:fs.cell? ⟨aa,2,none⟩=some (ah 0):=(aO dh.out 2).trans rfl
  have afN:=dF dh.out 2
  have ahN:fs.cell? ⟨aa,3,none⟩=some (.bool false):=(aO dh.out 3).trans rfl
  have afO:=dF dh.out 3
  have ahO:fs.cell? ⟨aa,4,none⟩=some (.slice none 0 0):=(aO dh.out 4).trans rfl
  have afP:=dF dh.out 4
  refine jr (w1:=?_) (by rfl) rfl ?_ ?_
  rotate_left
  ·go_simp
   rfl
  refine hK.out _ _ ((aY ac (aY ac (aY ac (aY ac (aY ac hH)))))) (fun hH=>?_)
  clear hK K
  refine iF (jB aS.out aB) ?_
  try go_wp2
  refine bodyPost_ret (nD rfl _ _ an aa 28 49 #[.slice J5 gl.length la] #[ah 0,.string (((au aK a2).f2).extract (ea:Int).toNat ((wrap64 (ea+bi)):Int).toNat),ah 0,.bool false,.slice none 0 0] (0,0) (0,0) _ _ rfl bH underlying28 rfl aB rfl bH underlying49 rfl aB) rfl ?_
  exact ⟨_,_,b_,(by (with_reducible repeat (first|apply Kd.dR|apply Kd.dS|apply Kd.bK));exact Kd.bW (aU (aU (aU (aU (aU (aU (Kd.dL (Kd.dL er.out eu.out (by decide)) dh.out (by decide)) (fun _ hk=>hk.1.2))))))) (fun _ hk=>trivial)),tN,ay⟩
 have db:=gU ej
 have e9:=gV ej
 try simp only [bI,bY,db]
 revert H;refine fJ (fun es H=>?_) fun es H=>?_
 rotate_left
 ·have et:=gU es
  have rV:=gV es
  obtain ⟨zh,lc,H⟩:=bd_ H
  have ev:=m_ H
  clear H
  obtain ⟨bl,bm,b1,b0,aN,aT,al,am⟩:=i_ bp bo dw ax ab aP a8 ai
  have gv:=jV a6.out
  go_upto_if 105 with (first|((with_reducible refine bU 98 ?_);refine bV (some 104) rfl rfl func98 aB rfl #[ah bi,ah 0,ah 128] rfl aW ?_;(with_reducible refine (mZ.calls bi 0 128 zh _ lc.out).mono ?_);rintro e w' ⟨rfl,⟨nd,rfl⟩⟩;refine ⟨_,rfl,?_⟩))
  (try simp only [Act.put,List.setIfInBounds_toArray,List.set_cons_zero,List.set_cons_succ])
  (try clear bm b0 bl b1 aN al aT am)
  (try clear gv)
  obtain ⟨H⟩:=ev
  by_cases el:zh=true
  rotate_left
  ·replace el:=Bool.eq_false_iff.mpr el
   subst el
   rw [if_neg iO] at H
   obtain ⟨gw,ld,H⟩:=bd_ H
   obtain ⟨⟨gx,yN,gz,h8,h9⟩,lf,H⟩:=bd_ H
   try dsimp -simprocs only at H
   simp only [Option.some.injEq,Prod.mk.injEq] at H
   obtain ⟨rfl,rfl,rfl,rfl,rfl,rfl⟩:=H
   obtain ⟨d6,d7,b0,b1,cd,ce,cf,cg⟩:=i_ d5 d4 ax dw az bd ac be
   have akk:=cu a5.out
   go_wp2_with (first|((with_reducible refine bU 73 ?_);refine bV (some 107) rfl rfl func73 aB rfl #[.agg #[.slice (some aq) aK.length bc]] rfl aW ?_;(with_reducible refine (pY.calls _ _ aK gw _ ?kG d3.out ld.out).mono ?_);(case kG=>repeat (first|exact (Kd.qg rC.out ay)|(with_reducible refine Kd.jJ ?_ _)|(with_reducible refine Kd.jL ?_ _)|(with_reducible refine Kd.jK ?_)));rintro e m9 ⟨ai6,rfl,ho0,hb⟩;refine ⟨_,rfl,?_⟩;obtain ⟨dx,a7,a5,a6,eu,dh,HB⟩:=p_ (Kd.dK ho0 (dO ay)) <| nM (aj a7) (aj a5) (aj a6) (aj eu) (aj dh) ay hb;(try clear hb);(try clear hk);(try clear ho0))|((with_reducible refine bU 75 ?_);refine bV (some 108) rfl rfl func75 aB rfl #[ah 12] rfl aW ?_;(with_reducible refine (lU.calls 12 gx yN gz h8 h9 _ lf.out).mono ?_);rintro e ma ⟨ai7,rfl,ho0,hb⟩;refine ⟨_,rfl,?_⟩;obtain ⟨dx,ew,a7,a5,a6,eu,dh,HB⟩:=p_ (Kd.bn (aG dx) hb) <| p_ (Kd.dK ho0 (dO ay)) <| nM (aj a7) (aj a5) (aj a6) (aj eu) (aj dh) ay hb;(try clear hb);(try clear ho0);obtain ⟨hs,hu,hy⟩:=Kd.dJ dx.out;subst hy;obtain ⟨jg,cv,aT,aN,cw,cx⟩:=kL br bq aP ab bv bw;have akm:=cu eu.out;obtain ⟨cy,cz,am,al⟩:=jE bu bs ai a8;have m2:=vZ dh.out;obtain ⟨i1,i2,i3⟩:=Kd.dJ ew.out;subst i3))
   refine bodyPost_ret (nD rfl _ _ an aa 28 49 #[.slice hs gw.length hu] #[ah gx,.string yN,ah gz,.bool h8,.slice i1 h9.length i2] (0,0) (0,0) _ _ rfl bH underlying28 rfl aB rfl bH underlying49 rfl aB) rfl ?_
   exact ⟨_,_,b_,(by (with_reducible repeat (first|apply Kd.dR|apply Kd.dS|apply Kd.bK));exact Kd.bW (aU (aU (aU (aU (aU (aU (Kd.dL (Kd.dL dx.out eu.out (by decide)) dh.out (by decide)) (fun _ hk=>hk.1.2))))))) (fun _ hk=>trivial)),(by (with_reducible repeat (first|apply Kd.dR|apply Kd.dS|apply Kd.bK));exact Kd.bW (aU (aU (aU (aU (aU (aU (Kd.dL (Kd.dL ew.out eu.out (by decide)) dh.out (by decide)) (fun _ hk=>hk.1.2))))))) (fun _ hk=>trivial)),ay⟩
  subst el
  rw [if_pos rfl] at H
  obtain ⟨dr,i4,H⟩:=bd_ H
  obtain ⟨⟨d2,dy⟩,fk,H⟩:=bd_ H
  try dsimp -simprocs only at H
  obtain ⟨⟨i5,i6,i7,i8,i9⟩,xP,H⟩:=bd_ H
  try dsimp -simprocs only at H
  simp only [Option.some.injEq,Prod.mk.injEq] at H
  obtain ⟨rfl,rfl,rfl,rfl,rfl,rfl⟩:=H
  try go_wp2
  (try (rw [GK ei];generalize kV:World.drewN ei _=ei;have eP:=fM (⟨(by rw [← kV];exact (aj a7))⟩:aA (ei.heap[af]?=some (.cells #[ah b8,ah b9,ah ba,ah bb] 25))) <| fM (⟨(by rw [← kV];exact (aj a5))⟩:aA (ei.heap[aw]?=some (.cells #[.slice (some aq) aK.length bc] 28))) <| fM (⟨(by rw [← kV];exact (aj a6))⟩:aA (ei.heap[a9]?=some (.cells #[ah cq,.string cr,.string ct,ah bh,ah bi,.string cc] 45))) <| fM (⟨(by rw [← kV];exact (aj eu))⟩:aA (ei.heap[an]?=some (.cells #[.slice none 0 0] 28))) <| fM (⟨(by rw [← kV];exact (aj dh))⟩:aA (ei.heap[aa]?=some (.cells #[ah 0,.string (⟨#[]⟩:ByteArray),ah 0,.bool false,.slice none 0 0] 49))) <| (⟨(by rw [← kV];exact ay)⟩:aA (Below w.heap.size w ei));clear a7 a5 a6 eu dh HB kV;obtain ⟨a7,a5,a6,eu,dh,HB⟩:=eP))
  obtain ⟨a7,a5,a6,eu,dh,HB⟩:=yG a7 a5 a6 eu dh HB
  refine iH (n:=14) (S:=fun w'=>xB w' af (ah b8) (ah b9) (ah ba) (ah bb) <| lD w' aw (.slice (some aq) aK.length bc) <| zI w' a9 (ah cq) (.string cr) (.string ct) (ah bh) (ah bi) (.string cc)) (ds:=[]) Si aB rfl rfl (nK a7.out ⟨(aO a5.out 0).trans rfl,qh a6.out⟩) (fun hH=>?_);refine jC (T:=lq.Yv) (B:=lq.XJ) aB aB (fun aS gJ=>?_)
  generalize ei.drew=mb at a7 a5 a6 eu dh HB hH ⊢
  refine eY 2 112 #[F_,F_,ak,F_,F_,F_,F_,F_,F_,F_,F_,F_,F_,F_] aS ?_
  refine eY 3 113 #[F_,F_,ak,ak,F_,F_,F_,F_,F_,F_,F_,F_,F_,F_] aS ?_
  refine eY 4 114 #[F_,F_,ak,ak,ak,F_,F_,F_,F_,F_,F_,F_,F_,F_] aS ?_
  refine pJ 0 110 #[ak,F_,ak,ak,ak,F_,F_,F_,F_,F_,F_,F_,F_,F_] aS gJ hH ?_
  refine pJ 1 111 YR aS gJ hH ?_
  refine pJ 5 115 YS aS gJ hH ?_
  refine H_ (σ:=Value × Nat) 2 Jv (fun s_=>[(116,.string dr),(117,.tuple #[.agg #[s_.1],ah dy]),(15,.pointer (some ⟨s_.2,0,none⟩)),(109,.tuple #[.agg #[s_.1],ah dy]),(118,.agg #[s_.1]),(119,ah dy)]) (fun s_ w'=>(xB w' af (ah b8) (ah b9) (ah ba) (ah bb) <| lD w' aw (.slice (some aq) aK.length bc) <| zI w' a9 (ah cq) (.string cr) (.string ct) (ah bh) (ah bi) (.string cc))∧(Kd.R bF 43 w' w.heap.size (fun _=>True) s_.1 d2)∧(w'.heap[af]?=some (.cells #[ah b8,ah b9,ah ba,ah bb] 25))∧(w'.heap[aw]?=some (.cells #[.slice (some aq) aK.length bc] 28))∧(w'.heap[a9]?=some (.cells #[ah cq,.string cr,.string ct,ah bh,ah bi,.string cc] 45))∧(w'.heap[an]?=some (.cells #[.slice none 0 0] 28))∧(w'.heap[aa]?=some (.cells #[ah 0,.string (⟨#[]⟩:ByteArray),ah 0,.bool false,.slice none 0 0] 49))∧(w'.heap[s_.2]?=some (.cells #[.slice none 0 0] 28))∧(w.heap.size≤s_.2)∧(w.heap.size≤s_.2)∧(af≠s_.2)∧(s_.2≠af)∧(aw≠s_.2)∧(s_.2≠aw)∧(a9≠s_.2)∧(s_.2≠a9)∧(an≠s_.2)∧(s_.2≠an)∧(aa≠s_.2)∧(s_.2≠aa)∧(Below w.heap.size w w')) ?_ ?_
  rotate_left
  ·intro uf
   refine AO (i:=6) (j:=11) (Ni:=some 116) (yt:=some 15) #[ak,ak,ak,ak,ak,ak,ak,F_,F_,F_,F_,F_,F_,F_] #[ak,ak,ak,ak,ak,ak,F_,F_,F_,F_,F_,ak,F_,F_] rfl rfl rfl rfl (AP aS.out aB) (by decide) (by decide) (fun K hK=>?_) (fun K hK=>?_)
   ·skip
    refine iR func126 aB rfl #[.string ((au aK a2).f2),ah bi] (by rfl) rfl rfl aW ?_
    with_reducible refine (BH.calls k ((au aK a2).f2) bi dr _ i4.out).mono ?_
    rintro e lh ⟨rfl,hb⟩
    refine ⟨_,rfl,?_⟩
    obtain ⟨a7,a5,a6,eu,dh,HB⟩:=nM (aj a7) (aj a5) (aj a6) (aj eu) (aj dh) ay hb
    (try clear hb)
    refine hK.out _ _ (nK a7.out ⟨(aO a5.out 0).trans rfl,qh a6.out⟩) (fun hH=>?_)
    clear hK K
    refine fD (some 116) ?_
    refine AO (i:=7) (j:=11) (Ni:=some 117) (yt:=some 15) #[ak,ak,ak,ak,ak,ak,ak,ak,F_,F_,F_,F_,F_,F_] Sj rfl rfl rfl rfl (AP aS.out aB) (by decide) (by decide) (fun K hK=>?_) (fun K hK=>?_)
    ·skip
     refine iR func124 aB rfl #[.agg #[ah b8,ah b9,ah ba,ah bb],.agg #[.slice (some aq) aK.length bc],ah a2,.string dr] (by rfl) rfl rfl aW ?_
     with_reducible refine (xu.calls k b8 b9 ba bb _ _ aK a2 dr d2 dy _ l9 d3.out fk.out).mono ?_
     rintro e ia ⟨Ec,rfl,ho0,hb⟩
     refine ⟨_,rfl,?_⟩
     obtain ⟨fK,a7,a5,a6,eu,dh,HB⟩:=p_ (Kd.dK ho0 (dO ay)) <| nM (aj a7) (aj a5) (aj a6) (aj eu) (aj dh) ay hb
     (try clear hb)
     (try clear ho0)
     refine hK.out _ _ (nK a7.out ⟨(aO a5.out 0).trans rfl,qh a6.out⟩) (fun hH=>?_)
     clear hK K
     refine fD (some 117) ?_
     refine eY 8 109 #[ak,ak,ak,ak,ak,ak,ak,ak,ak,F_,F_,F_,F_,F_] aS ?_
     refine eY 9 118 YT aS ?_
     refine eY 10 119 YU aS ?_
     refine gB (i:=11) (N:=some 15) Jv rfl rfl (jW aS.out aB) (by decide) (fun K hK=>?_)
     refine ED ?hg (N:=15) ?hd (cs:=#[.slice none 0 0]) (t:=28) ?hr ?_;(case hd=>rfl);(case hg=>rfl);(case hr=>first|(go_simp;done)|(go_simp;rfl))
     intro ar hg ib hbox hb
     obtain ⟨fK,a7,a5,a6,eu,dh,HB,av,dk,dl,b2,ci,bx,cj,ao,ck,cl,bz,cm,bP⟩:=p_ (Kd.bn (aG fK) hb) <| CW (aj a7) (aj a5) (aj a6) (aj eu) (aj dh) ay hb hbox hg
     clear hb hbox hg
     refine hK.out _ _ (nK a7.out ⟨(aO a5.out 0).trans rfl,qh a6.out⟩) (fun hH=>?_)
     clear hK K
     refine fD (some 15) ?_
     exact rW wF (uf (Ec,ar) _ ⟨hH,(aG fK),(aj a7),(aj a5),(aj a6),(aj eu),(aj dh),(aj av),dk.out,dl.out,b2.out,ci.out,bx.out,cj.out,ao.out,ck.out,cl.out,bz.out,cm.out,bP.out,ay⟩)
    ·skip
     refine ED ?hg (N:=15) ?hd (cs:=#[.slice none 0 0]) (t:=28) ?hr ?_;(case hd=>rfl);(case hg=>rfl);(case hr=>first|(go_simp;done)|(go_simp;rfl))
     intro ar hg ia hbox hb
     obtain ⟨a7,a5,a6,eu,dh,HB,av,dk,dl,b2,ci,bx,cj,ao,ck,cl,bz,cm,bP⟩:=CW (aj a7) (aj a5) (aj a6) (aj eu) (aj dh) ay hb hbox hg
     clear hb hbox hg
     refine hK.out _ _ (nK a7.out ⟨(aO a5.out 0).trans rfl,qh a6.out⟩) (fun hH=>?_)
     clear hK K
     refine fD (some 15) ?_
     refine gB (i:=7) (N:=some 117) Sl rfl rfl (jW aS.out aB) (by decide) (fun K hK=>?_)
     refine iR func124 aB rfl #[.agg #[ah b8,ah b9,ah ba,ah bb],.agg #[.slice (some aq) aK.length bc],ah a2,.string dr] (by rfl) rfl rfl aW ?_
     with_reducible refine (xu.calls k b8 b9 ba bb _ _ aK a2 dr d2 dy _ l9 d3.out fk.out).mono ?_
     rintro e ib ⟨Ec,rfl,ho0,hb⟩
     refine ⟨_,rfl,?_⟩
     obtain ⟨fK,a7,a5,a6,eu,dh,av,HB⟩:=p_ (Kd.dK ho0 (dO ay)) <| oZ (aj a7) (aj a5) (aj a6) (aj eu) (aj dh) (aj av) ay hb
     (try clear hb)
     (try clear ho0)
     refine hK.out _ _ (nK a7.out ⟨(aO a5.out 0).trans rfl,qh a6.out⟩) (fun hH=>?_)
     clear hK K
     refine fD (some 117) ?_
     refine eY 8 109 Sm aS ?_
     refine eY 9 118 Sr aS ?_
     refine eY 10 119 Jv aS ?_
     exact rW wF (uf (Ec,ar) _ ⟨hH,(aG fK),(aj a7),(aj a5),(aj a6),(aj eu),(aj dh),(aj av),dk.out,dl.out,b2.out,ci.out,bx.out,cj.out,ao.out,ck.out,cl.out,bz.out,cm.out,bP.out,ay⟩)
   ·skip
    refine ED ?hg (N:=15) ?hd (cs:=#[.slice none 0 0]) (t:=28) ?hr ?_;(case hd=>rfl);(case hg=>rfl);(case hr=>first|(go_simp;done)|(go_simp;rfl))
    intro ar hg lh hbox hb
    obtain ⟨a7,a5,a6,eu,dh,HB,av,dk,dl,b2,ci,bx,cj,ao,ck,cl,bz,cm,bP⟩:=CW (aj a7) (aj a5) (aj a6) (aj eu) (aj dh) ay hb hbox hg
    clear hb hbox hg
    refine hK.out _ _ (nK a7.out ⟨(aO a5.out 0).trans rfl,qh a6.out⟩) (fun hH=>?_)
    clear hK K
    refine fD (some 15) ?_
    refine gB (i:=6) (N:=some 116) Sj rfl rfl (jW aS.out aB) (by decide) (fun K hK=>?_)
    refine iR func126 aB rfl #[.string ((au aK a2).f2),ah bi] (by rfl) rfl rfl aW ?_
    with_reducible refine (BH.calls k ((au aK a2).f2) bi dr _ i4.out).mono ?_
    rintro e ia ⟨rfl,hb⟩
    refine ⟨_,rfl,?_⟩
    obtain ⟨a7,a5,a6,eu,dh,av,HB⟩:=oZ (aj a7) (aj a5) (aj a6) (aj eu) (aj dh) (aj av) ay hb
    (try clear hb)
    refine hK.out _ _ (nK a7.out ⟨(aO a5.out 0).trans rfl,qh a6.out⟩) (fun hH=>?_)
    clear hK K
    refine fD (some 116) ?_
    refine gB (i:=7) (N:=some 117) Sl rfl rfl (jW aS.out aB) (by decide) (fun K hK=>?_)
    refine iR func124 aB rfl #[.agg #[ah b8,ah b9,ah ba,ah bb],.agg #[.slice (some aq) aK.length bc],ah a2,.string dr] (by rfl) rfl rfl aW ?_
    with_reducible refine (xu.calls k b8 b9 ba bb _ _ aK a2 dr d2 dy _ l9 d3.out fk.out).mono ?_
    rintro e ib ⟨Ec,rfl,ho0,hb⟩
    refine ⟨_,rfl,?_⟩
    obtain ⟨fK,a7,a5,a6,eu,dh,av,HB⟩:=p_ (Kd.dK ho0 (dO ay)) <| oZ (aj a7) (aj a5) (aj a6) (aj eu) (aj dh) (aj av) ay hb
    (try clear hb)
    (try clear ho0)
    refine hK.out _ _ (nK a7.out ⟨(aO a5.out 0).trans rfl,qh a6.out⟩) (fun hH=>?_)
    clear hK K
    refine fD (some 117) ?_
    refine eY 8 109 Sm aS ?_
    refine eY 9 118 Sr aS ?_
    refine eY 10 119 Jv aS ?_
    exact rW wF (uf (Ec,ar) _ ⟨hH,(aG fK),(aj a7),(aj a5),(aj a6),(aj eu),(aj dh),(aj av),dk.out,dl.out,b2.out,ci.out,bx.out,cj.out,ao.out,ck.out,cl.out,bz.out,cm.out,bP.out,ay⟩)
  rintro ⟨Ec,ar⟩ ch ⟨vJ,zT,zU,zV,zW,zX,zY,zZ,z_,NU,NV,NH,NI,NJ,NK,NM,NP,NQ,NR,NS,NT⟩
  obtain ⟨fK,a7,a5,a6,eu,dh,av,dk,dl,b2,ci,bx,cj,ao,ck,cl,bz,cm,bP,HB⟩:=fM (⟨zT⟩:aA (Kd.R bF 43 ch w.heap.size (fun _=>True) Ec d2)) <| fM (⟨zU⟩:aA (ch.heap[af]?=some (.cells #[ah b8,ah b9,ah ba,ah bb] 25))) <| fM (⟨zV⟩:aA (ch.heap[aw]?=some (.cells #[.slice (some aq) aK.length bc] 28))) <| fM (⟨zW⟩:aA (ch.heap[a9]?=some (.cells #[ah cq,.string cr,.string ct,ah bh,ah bi,.string cc] 45))) <| fM (⟨zX⟩:aA (ch.heap[an]?=some (.cells #[.slice none 0 0] 28))) <| fM (⟨zY⟩:aA (ch.heap[aa]?=some (.cells #[ah 0,.string (⟨#[]⟩:ByteArray),ah 0,.bool false,.slice none 0 0] 49))) <| fM (⟨zZ⟩:aA (ch.heap[ar]?=some (.cells #[.slice none 0 0] 28))) <| fM (⟨z_⟩:aA (w.heap.size≤ar)) <| fM (⟨NU⟩:aA (w.heap.size≤ar)) <| fM (⟨NV⟩:aA (af≠ar)) <| fM (⟨NH⟩:aA (ar≠af)) <| fM (⟨NI⟩:aA (aw≠ar)) <| fM (⟨NJ⟩:aA (ar≠aw)) <| fM (⟨NK⟩:aA (a9≠ar)) <| fM (⟨NM⟩:aA (ar≠a9)) <| fM (⟨NP⟩:aA (an≠ar)) <| fM (⟨NQ⟩:aA (ar≠an)) <| fM (⟨NR⟩:aA (aa≠ar)) <| fM (⟨NS⟩:aA (ar≠aa)) <| (⟨NT⟩:aA (Below w.heap.size w ch))
  have hH:xB ch af (ah b8) (ah b9) (ah ba) (ah bb) <| lD ch aw (.slice (some aq) aK.length bc) <| zI ch a9 (ah cq) (.string cr) (.string ct) (ah bh) (ah bi) (.string cc):=vJ
  obtain ⟨d0,d1,ex⟩:=Kd.dJ fK.out
  (first|subst ex|(injection ex with dP fZ dQ;have f_:=dP.symm;have gq:=dQ.symm;clear dP fZ dQ;subst f_;subst gq))
  refine rW (a':=?_) ?_ ?_
  rotate_left
  ·simp only [Aj,Act.put,List.setIfInBounds_toArray,List.set_cons_zero,List.set_cons_succ]
   rfl
  refine gB (i:=12) (N:=none) YV rfl rfl (jW aS.out aB) (by decide) (fun K hK=>?_)
  have agF:ch.cell? ⟨ar,0,none⟩=some (.slice none 0 0):=(aO av.out 0).trans rfl
  have aeG:=dF av.out 0
  obtain ⟨ic,id,ie,EZ,ii,ij,ik,il⟩:=i_ b2 bx ao cl cm ci cj ck
  obtain ⟨im,io⟩:=iJ bz bP
  refine jr (w1:=?_) (by rfl) rfl ?_ ?_
  rotate_left
  ·go_simp
   rfl
  refine hK.out _ _ ⟨(aY b2 hH.1),(aY b2 hH.2.1),(aY b2 hH.2.2.1),(aY b2 hH.2.2.2.1),(aY bx hH.2.2.2.2.1),(aY ao hH.2.2.2.2.2.1),(aY ao hH.2.2.2.2.2.2.1),(aY ao hH.2.2.2.2.2.2.2.1),(aY ao hH.2.2.2.2.2.2.2.2.1),(aY ao hH.2.2.2.2.2.2.2.2.2.1),(aY ao hH.2.2.2.2.2.2.2.2.2.2)⟩ (fun hH=>?_)
  clear hK K
  refine eY 13 16 YW aS ?_
  refine iF (jB aS.out aB) ?_
  try go_wp2
  have gX:aA (Kd.R bF 43 (ch.setCell ⟨ar,0,none⟩ (.slice d0 d2.length d1)) w.heap.size (fun _=>True) (.slice d0 d2.length d1) d2):=⟨(by (with_reducible repeat (first|apply Kd.dR|apply Kd.dS|apply Kd.bK));exact Kd.bW (aU (Kd.dL fK.out av.out (by decide))) (fun _ hk=>trivial))⟩
  have lN:aA ((ch.setCell ⟨ar,0,none⟩ (.slice d0 d2.length d1)).heap[af]?=some (.cells #[ah b8,ah b9,ah ba,ah bb] 25)):=⟨bH⟩
  have lQ:aA ((ch.setCell ⟨ar,0,none⟩ (.slice d0 d2.length d1)).heap[aw]?=some (.cells #[.slice (some aq) aK.length bc] 28)):=⟨bH⟩
  have lS:aA ((ch.setCell ⟨ar,0,none⟩ (.slice d0 d2.length d1)).heap[a9]?=some (.cells #[ah cq,.string cr,.string ct,ah bh,ah bi,.string cc] 45)):=⟨bH⟩
  have lT:aA ((ch.setCell ⟨ar,0,none⟩ (.slice d0 d2.length d1)).heap[an]?=some (.cells #[.slice none 0 0] 28)):=⟨bH⟩
  have mV:aA ((ch.setCell ⟨ar,0,none⟩ (.slice d0 d2.length d1)).heap[aa]?=some (.cells #[ah 0,.string (⟨#[]⟩:ByteArray),ah 0,.bool false,.slice none 0 0] 49)):=⟨bH⟩
  have oP:aA ((ch.setCell ⟨ar,0,none⟩ (.slice d0 d2.length d1)).heap[ar]?=some (.cells #[.slice d0 d2.length d1] 28)):=⟨bH⟩
  have sZ:aA (Below w.heap.size w (ch.setCell ⟨ar,0,none⟩ (.slice d0 d2.length d1))):=⟨ay⟩
  (try clear fK)
  (try clear a7)
  (try clear a5)
  (try clear a6)
  (try clear eu)
  (try clear dh)
  (try clear av)
  (try clear HB)
  generalize (ch.setCell ⟨ar,0,none⟩ (.slice d0 d2.length d1))=li at gX lN lQ lS lT mV oP sZ ⊢
  have fK:=gX
  have a7:=lN
  have a5:=lQ
  have a6:=lS
  have eu:=lT
  have dh:=mV
  have av:=oP
  have HB:=sZ
  clear gX lN lQ lS lT mV oP sZ
  obtain ⟨fK,a7,a5,a6,eu,dh,av,HB⟩:=p_ (Kd.bK fK.out) <| wR a7 a5 a6 eu dh av HB
  refine iH (n:=5) (S:=fun w'=>w'.cell? ⟨ar,0,none⟩=some (.slice d0 d2.length d1)) (ds:=[]) Gt aB rfl rfl ((aO av.out 0).trans rfl) (fun hH=>?_)
  generalize li.drew=mc at fK a7 a5 a6 eu dh av HB hH ⊢
  refine xZ (i:=1) (N:=some 121) Js aB ?_
  refine ng (i:=0) (N:=some 120) (v:=?_) (a':=?_) Jt rfl rfl aB (fun _ _ _ h=>h) (Or.inl ⟨(by rfl),?_⟩) hH ?_ ?_
  rotate_left
  ·intro w' s0
   go_simp
   with_reducible rfl
  rotate_left
  ·simp only [Act.put,List.setIfInBounds_toArray,List.set_cons_zero,List.set_cons_succ,bI,bY]
   rfl
  refine gB (i:=2) (N:=some 122) Ju rfl rfl aB (by decide) (fun K hK=>?_)
  refine iR func75 aB rfl #[ah dy] (by rfl) rfl rfl aW ?_
  with_reducible refine (lU.calls dy i5 i6 i7 i8 i9 _ xP.out).mono ?_
  rintro e e3 ⟨ai5,rfl,ho0,hb⟩
  refine ⟨_,rfl,?_⟩
  obtain ⟨fK,ey,a7,a5,a6,eu,dh,av,HB⟩:=p_ (Kd.bn (aG fK) hb) <| p_ (Kd.dK ho0 (dO ay)) <| oZ (aj a7) (aj a5) (aj a6) (aj eu) (aj dh) (aj av) ay hb
  (try clear hb)
  (try clear ho0)
  obtain ⟨ip,Ae,ez⟩:=Kd.dJ ey.out
  (first|subst ez|(injection ez with dP fZ dQ;have f_:=dP.symm;have gq:=dQ.symm;clear dP fZ dQ;subst f_;subst gq))
  refine hK.out _ _ ((aO av.out 0).trans rfl) (fun hH=>?_)
  clear hK K
  refine fD (some 122) ?_
  refine gB (i:=3) (N:=none) Gu rfl rfl aB (by decide) (fun K hK=>?_)
  have agG:e3.cell? ⟨an,0,none⟩=some (.slice none 0 0):=(aO eu.out 0).trans rfl
  have aeH:=dF eu.out 0
  obtain ⟨cv,cd,aN,cx,jg,ce,aT,cw⟩:=i_ bq az ab bw br bd aP bv
  refine jr (w1:=?_) (by rfl) rfl ?_ ?_
  rotate_left
  ·go_simp
   rfl
  refine hK.out _ _ ((aY bz hH)) (fun hH=>?_)
  clear hK K
  refine gB (i:=4) (N:=none) Gv rfl rfl aB (by decide) (fun K hK=>?_)
  have aak:e3.cell? ⟨aa,0,none⟩=some (ah 0):=(aO dh.out 0).trans rfl
  have ZW:=dF dh.out 0
  obtain ⟨cz,cf,al,cy,cg,am⟩:=kL bs ac a8 bu be ai
  have aal:e3.cell? ⟨aa,1,none⟩=some (.string (⟨#[]⟩:ByteArray)):=(aO dh.out 1).trans rfl
  have ZX:=dF dh.out 1
  have aam:e3.cell? ⟨aa,2,none⟩=some (ah 0):=(aO dh.out 2).trans rfl
  have ZY:=dF dh.out 2
  have aan:e3.cell? ⟨aa,3,none⟩=some (.bool false):=(aO dh.out 3).trans rfl
  have Z4:=dF dh.out 3
  have agI:e3.cell? ⟨aa,4,none⟩=some (.slice none 0 0):=(aO dh.out 4).trans rfl
  have aeJ:=dF dh.out 4
  refine jr (w1:=?_) (by rfl) rfl ?_ ?_
  rotate_left
  ·go_simp
   rfl
  refine hK.out _ _ ((aY bP (aY bP (aY bP (aY bP (aY bP hH)))))) (fun hH=>?_)
  clear hK K
  refine iF aB ?_
  try go_wp2
  refine bodyPost_ret (nD rfl _ _ an aa 28 49 #[.slice d0 d2.length d1] #[ah i5,.string i6,ah i7,.bool i8,.slice ip i9.length Ae] (0,0) (0,0) _ _ rfl bH underlying28 rfl aB rfl bH underlying49 rfl aB) rfl ?_
  exact ⟨_,_,b_,(by (with_reducible repeat (first|apply Kd.dR|apply Kd.dS|apply Kd.bK));exact Kd.bW (aU (aU (aU (aU (aU (aU (Kd.dL (Kd.dL fK.out eu.out (by decide)) dh.out (by decide)) (fun _ hk=>hk.1.2))))))) (fun _ hk=>trivial)),(by (with_reducible repeat (first|apply Kd.dR|apply Kd.dS|apply Kd.bK));exact Kd.bW (aU (aU (aU (aU (aU (aU (Kd.dL (Kd.dL ey.out eu.out (by decide)) dh.out (by decide)) (fun _ hk=>hk.1.2))))))) (fun _ hk=>trivial)),ay⟩
 have et:=gZ es
 have rV:=g_ es
 clear es
 have fl:=m_ H
 clear H
 go_upto_region 12 with (fail)
 go_cut [75] (fun v75 wc=>∃ (kq:Nat) (dt:Bool),v75=.bool dt∧aA (lq.j1 kq a2 ((au aK a2).f2) dt b8 b9 ba bb aK cq cr ct bh bi cc=some (r1,r2,r3,r4,r5,r6))∧aA (kq≤k)∧aA (wc.heap[af]?=some (.cells #[ah b8,ah b9,ah ba,ah bb] 25))∧aA (wc.heap[aw]?=some (.cells #[(.slice (some aq) aK.length bc)] 28))∧aA (wc.heap[a9]?=some (.cells #[ah cq,.string cr,.string ct,ah bh,ah bi,.string cc] 45))∧aA (wc.heap[an]?=some (.cells #[(.slice none 0 0)] 28))∧aA (wc.heap[aa]?=some (.cells #[ah 0,.string (⟨#[]⟩:ByteArray),ah 0,.bool false,(.slice none 0 0)] 49))∧aA (Below w.heap.size w wc))
 case first =>
  obtain ⟨H⟩:=fl
  revert H;refine gI (fun dm H=>?_) fun dm H=>?_
  ·try simp only [bI,bY,dm]
   have H':=m_ H
   clear H
   obtain ⟨bl,bm,b1,b0,aN,aT,al,am⟩:=i_ bp bo dw ax ab aP a8 ai
   have f4:=jV a6.out
   go_wp2
   go_meet
   case rel=>exact ⟨_,(true),bg,H',⟨kH⟩,⟨(aj a7)⟩,⟨(aj a5)⟩,⟨(aj a6)⟩,⟨(aj eu)⟩,⟨(aj dh)⟩,⟨ay⟩⟩
  try simp only [bI,bY,dm]
  have H':=m_ H
  clear H
  obtain ⟨bl,bm,b1,b0,aN,aT,al,am⟩:=i_ bp bo dw ax ab aP a8 ai
  have f5:=jV a6.out
  go_wp2
  go_meet
  case rel=>exact ⟨_,(decide (bh > (wrap64 (128 - (cc.size:Int))))),bg,H',⟨kH⟩,⟨(aj a7)⟩,⟨(aj a5)⟩,⟨(aj a6)⟩,⟨(aj eu)⟩,⟨(aj dh)⟩,⟨ay⟩⟩
 case rest =>
 clear fl
 try clear c5;try clear c6;try clear ej;try clear db;try clear e9;try clear es;try clear et;try clear rV;try clear e6;try clear e7
 obtain ⟨kq,dt,rfl,HA,adR,a7,a5,a6,eu,dh,HB⟩:=hcut
 cases kq with
 | zero=>exact absurd HA.out (by simp [lq.j1])
 | succ Ig =>
 obtain ⟨H⟩:=HA
 simp only [lq.j1] at H
 by_cases em:dt=true
 ·subst em
  rw [if_pos rfl] at H
  obtain ⟨ir,lj,H⟩:=bd_ H
  obtain ⟨⟨iu,iv,Af,ix,Bg⟩,lk,H⟩:=bd_ H
  try dsimp -simprocs only at H
  simp only [Option.some.injEq,Prod.mk.injEq] at H
  obtain ⟨rfl,rfl,rfl,rfl,rfl,rfl⟩:=H
  obtain ⟨d6,d7,b0,b1,cd,ce,cf,cg⟩:=i_ d5 d4 ax dw az bd ac be
  have aj0:=cu a5.out
  go_wp2_with (first|((with_reducible refine bU 73 ?_);refine bV (some 77) rfl rfl func73 aB rfl #[.agg #[.slice (some aq) aK.length bc]] rfl aW ?_;(with_reducible refine (pY.calls _ _ aK ir _ l9 d3.out lj.out).mono ?_);rintro e mi ⟨ai2,rfl,ho0,hb⟩;refine ⟨_,rfl,?_⟩;obtain ⟨dz,a7,a5,a6,eu,dh,HB⟩:=p_ (Kd.dK ho0 (dO ay)) <| nM (aj a7) (aj a5) (aj a6) (aj eu) (aj dh) ay hb;(try clear hb);(try clear ho0))|((with_reducible refine bU 75 ?_);refine bV (some 78) rfl rfl func75 aB rfl #[ah 12] rfl aW ?_;(with_reducible refine (lU.calls 12 iu iv Af ix Bg _ lk.out).mono ?_);rintro e mj ⟨ai3,rfl,ho0,hb⟩;refine ⟨_,rfl,?_⟩;obtain ⟨dz,f7,a7,a5,a6,eu,dh,HB⟩:=p_ (Kd.bn (aG dz) hb) <| p_ (Kd.dK ho0 (dO ay)) <| nM (aj a7) (aj a5) (aj a6) (aj eu) (aj dh) ay hb;(try clear hb);(try clear ho0);obtain ⟨iz,j5,j9⟩:=Kd.dJ dz.out;subst j9;obtain ⟨jg,cv,aT,aN,cw,cx⟩:=kL br bq aP ab bv bw;have aj3:=cu eu.out;obtain ⟨cy,cz,am,al⟩:=jE bu bs ai a8;have m3:=vZ dh.out;obtain ⟨ja,jb,E8⟩:=Kd.dJ f7.out;subst E8))
  refine bodyPost_ret (nD rfl _ _ an aa 28 49 #[.slice iz ir.length j5] #[ah iu,.string iv,ah Af,.bool ix,.slice ja Bg.length jb] (0,0) (0,0) _ _ rfl bH underlying28 rfl aB rfl bH underlying49 rfl aB) rfl ?_
  exact ⟨_,_,b_,(by (with_reducible repeat (first|apply Kd.dR|apply Kd.dS|apply Kd.bK));exact Kd.bW (aU (aU (aU (aU (aU (aU (Kd.dL (Kd.dL dz.out eu.out (by decide)) dh.out (by decide)) (fun _ hk=>hk.1.2))))))) (fun _ hk=>trivial)),(by (with_reducible repeat (first|apply Kd.dR|apply Kd.dS|apply Kd.bK));exact Kd.bW (aU (aU (aU (aU (aU (aU (Kd.dL (Kd.dL f7.out eu.out (by decide)) dh.out (by decide)) (fun _ hk=>hk.1.2))))))) (fun _ hk=>trivial)),ay⟩
 replace em:=Bool.eq_false_iff.mpr em
 subst em
 rw [if_neg iO] at H
 obtain ⟨du,Bh,H⟩:=bd_ H
 obtain ⟨⟨bj,dv⟩,fo,H⟩:=bd_ H
 try dsimp -simprocs only at H
 have fa:=m_ H
 clear H
 try go_wp2
 obtain ⟨a7,a5,a6,eu,dh,HB⟩:=yG a7 a5 a6 eu dh HB
 refine iH (n:=16) (S:=fun w'=>xB w' af (ah b8) (ah b9) (ah ba) (ah bb) <| lD w' aw (.slice (some aq) aK.length bc) <| zI w' a9 (ah cq) (.string cr) (.string ct) (ah bh) (ah bi) (.string cc)) (ds:=[]) Gs aB rfl rfl (nK a7.out ⟨(aO a5.out 0).trans rfl,qh a6.out⟩) (fun hH=>?_);refine jC (T:=lq.Yt) (B:=lq.XH) aB aB (fun aS gJ=>?_)
 generalize wc.drew=ml at a7 a5 a6 eu dh HB hH ⊢
 refine eY 2 82 YO aS ?_
 refine eY 3 83 YP aS ?_
 refine eY 4 84 #[F_,F_,ak,ak,ak,F_,F_,F_,F_,F_,F_,F_,F_,F_,F_,F_] aS ?_
 refine eY 6 86 #[F_,F_,ak,ak,ak,F_,ak,F_,F_,F_,F_,F_,F_,F_,F_,F_] aS ?_
 refine pJ 0 80 #[ak,F_,ak,ak,ak,F_,ak,F_,F_,F_,F_,F_,F_,F_,F_,F_] aS gJ hH ?_
 refine pJ 1 81 #[ak,ak,ak,ak,ak,F_,ak,F_,F_,F_,F_,F_,F_,F_,F_,F_] aS gJ hH ?_
 refine pJ 5 85 Na aS gJ hH ?_
 refine pJ 7 87 Rx aS gJ hH ?_
 refine H_ (σ:=Value × Nat) 2 EG (fun s_=>[(88,.string du),(89,.tuple #[.agg #[s_.1],ah dv]),(13,.pointer (some ⟨s_.2,0,none⟩)),(79,.tuple #[.agg #[s_.1],ah dv]),(90,.agg #[s_.1]),(91,ah dv)]) (fun s_ w'=>(xB w' af (ah b8) (ah b9) (ah ba) (ah bb) <| lD w' aw (.slice (some aq) aK.length bc) <| zI w' a9 (ah cq) (.string cr) (.string ct) (ah bh) (ah bi) (.string cc))∧(Kd.R bF 43 w' w.heap.size (fun _=>True) s_.1 bj)∧(w'.heap[af]?=some (.cells #[ah b8,ah b9,ah ba,ah bb] 25))∧(w'.heap[aw]?=some (.cells #[.slice (some aq) aK.length bc] 28))∧(w'.heap[a9]?=some (.cells #[ah cq,.string cr,.string ct,ah bh,ah bi,.string cc] 45))∧(w'.heap[an]?=some (.cells #[.slice none 0 0] 28))∧(w'.heap[aa]?=some (.cells #[ah 0,.string (⟨#[]⟩:ByteArray),ah 0,.bool false,.slice none 0 0] 49))∧(w'.heap[s_.2]?=some (.cells #[.slice none 0 0] 28))∧(w.heap.size≤s_.2)∧(w.heap.size≤s_.2)∧(af≠s_.2)∧(s_.2≠af)∧(aw≠s_.2)∧(s_.2≠aw)∧(a9≠s_.2)∧(s_.2≠a9)∧(an≠s_.2)∧(s_.2≠an)∧(aa≠s_.2)∧(s_.2≠aa)∧(Below w.heap.size w w')) ?_ ?_
 rotate_left
 ·intro uf
  refine AO (i:=8) (j:=13) (Ni:=some 88) (yt:=some 13) Ry #[ak,ak,ak,ak,ak,ak,ak,ak,F_,F_,F_,F_,F_,ak,F_,F_] rfl rfl rfl rfl (AP aS.out aB) (by decide) (by decide) (fun K hK=>?_) (fun K hK=>?_)
  ·skip
   refine iR func125 aB rfl #[.string ((au aK a2).f2),ah bh,.string cc] (by rfl) rfl rfl aW ?_
   with_reducible refine (tC.calls Ig ((au aK a2).f2) bh cc du _ Bh.out).mono ?_
   rintro e ll ⟨rfl,hb⟩
   refine ⟨_,rfl,?_⟩
   obtain ⟨a7,a5,a6,eu,dh,HB⟩:=nM (aj a7) (aj a5) (aj a6) (aj eu) (aj dh) ay hb
   (try clear hb)
   refine hK.out _ _ (nK a7.out ⟨(aO a5.out 0).trans rfl,qh a6.out⟩) (fun hH=>?_)
   clear hK K
   refine fD (some 88) ?_
   refine AO (i:=9) (j:=13) (Ni:=some 89) (yt:=some 13) RD Sv rfl rfl rfl rfl (AP aS.out aB) (by decide) (by decide) (fun K hK=>?_) (fun K hK=>?_)
   ·skip
    refine iR func124 aB rfl #[.agg #[ah b8,ah b9,ah ba,ah bb],.agg #[.slice (some aq) aK.length bc],ah a2,.string du] (by rfl) rfl rfl aW ?_
    with_reducible refine (xu.calls Ig b8 b9 ba bb _ _ aK a2 du bj dv _ l9 d3.out fo.out).mono ?_
    rintro e Bj ⟨Eb,rfl,ho0,hb⟩
    refine ⟨_,rfl,?_⟩
    obtain ⟨qA,a7,a5,a6,eu,dh,HB⟩:=p_ (Kd.dK ho0 (dO ay)) <| nM (aj a7) (aj a5) (aj a6) (aj eu) (aj dh) ay hb
    (try clear hb)
    (try clear ho0)
    refine hK.out _ _ (nK a7.out ⟨(aO a5.out 0).trans rfl,qh a6.out⟩) (fun hH=>?_)
    clear hK K
    refine fD (some 89) ?_
    refine eY 10 79 RF aS ?_
    refine eY 11 90 Rz aS ?_
    refine eY 12 91 Nb aS ?_
    refine gB (i:=13) (N:=some 13) EG rfl rfl (jW aS.out aB) (by decide) (fun K hK=>?_)
    refine ED ?hg (N:=13) ?hd (cs:=#[.slice none 0 0]) (t:=28) ?hr ?_;(case hd=>rfl);(case hg=>rfl);(case hr=>first|(go_simp;done)|(go_simp;rfl))
    intro ag hg Ag hbox hb
    obtain ⟨qA,a7,a5,a6,eu,dh,HB,nV,kM,dp,b3,cn,ca,co,ap,cp,fF,b4,dM,ae⟩:=p_ (Kd.bn (aG qA) hb) <| CW (aj a7) (aj a5) (aj a6) (aj eu) (aj dh) ay hb hbox hg
    clear hb hbox hg
    refine hK.out _ _ (nK a7.out ⟨(aO a5.out 0).trans rfl,qh a6.out⟩) (fun hH=>?_)
    clear hK K
    refine fD (some 13) ?_
    exact rW wF (uf (Eb,ag) _ ⟨hH,(aG qA),(aj a7),(aj a5),(aj a6),(aj eu),(aj dh),(aj nV),kM.out,dp.out,b3.out,cn.out,ca.out,co.out,ap.out,cp.out,fF.out,b4.out,dM.out,ae.out,ay⟩)
   ·skip
    refine ED ?hg (N:=13) ?hd (cs:=#[.slice none 0 0]) (t:=28) ?hr ?_;(case hd=>rfl);(case hg=>rfl);(case hr=>first|(go_simp;done)|(go_simp;rfl))
    intro ag hg Bj hbox hb
    obtain ⟨a7,a5,a6,eu,dh,HB,nV,kM,dp,b3,cn,ca,co,ap,cp,fF,b4,dM,ae⟩:=CW (aj a7) (aj a5) (aj a6) (aj eu) (aj dh) ay hb hbox hg
    clear hb hbox hg
    refine hK.out _ _ (nK a7.out ⟨(aO a5.out 0).trans rfl,qh a6.out⟩) (fun hH=>?_)
    clear hK K
    refine fD (some 13) ?_
    refine gB (i:=9) (N:=some 89) Sz rfl rfl (jW aS.out aB) (by decide) (fun K hK=>?_)
    refine iR func124 aB rfl #[.agg #[ah b8,ah b9,ah ba,ah bb],.agg #[.slice (some aq) aK.length bc],ah a2,.string du] (by rfl) rfl rfl aW ?_
    with_reducible refine (xu.calls Ig b8 b9 ba bb _ _ aK a2 du bj dv _ l9 d3.out fo.out).mono ?_
    rintro e Ag ⟨Eb,rfl,ho0,hb⟩
    refine ⟨_,rfl,?_⟩
    obtain ⟨qA,a7,a5,a6,eu,dh,nV,HB⟩:=p_ (Kd.dK ho0 (dO ay)) <| oZ (aj a7) (aj a5) (aj a6) (aj eu) (aj dh) (aj nV) ay hb
    (try clear hb)
    (try clear ho0)
    refine hK.out _ _ (nK a7.out ⟨(aO a5.out 0).trans rfl,qh a6.out⟩) (fun hH=>?_)
    clear hK K
    refine fD (some 89) ?_
    refine eY 10 79 SA aS ?_
    refine eY 11 90 SB aS ?_
    refine eY 12 91 EG aS ?_
    exact rW wF (uf (Eb,ag) _ ⟨hH,(aG qA),(aj a7),(aj a5),(aj a6),(aj eu),(aj dh),(aj nV),kM.out,dp.out,b3.out,cn.out,ca.out,co.out,ap.out,cp.out,fF.out,b4.out,dM.out,ae.out,ay⟩)
  ·skip
   refine ED ?hg (N:=13) ?hd (cs:=#[.slice none 0 0]) (t:=28) ?hr ?_;(case hd=>rfl);(case hg=>rfl);(case hr=>first|(go_simp;done)|(go_simp;rfl))
   intro ag hg ll hbox hb
   obtain ⟨a7,a5,a6,eu,dh,HB,nV,kM,dp,b3,cn,ca,co,ap,cp,fF,b4,dM,ae⟩:=CW (aj a7) (aj a5) (aj a6) (aj eu) (aj dh) ay hb hbox hg
   clear hb hbox hg
   refine hK.out _ _ (nK a7.out ⟨(aO a5.out 0).trans rfl,qh a6.out⟩) (fun hH=>?_)
   clear hK K
   refine fD (some 13) ?_
   refine gB (i:=8) (N:=some 88) Sv rfl rfl (jW aS.out aB) (by decide) (fun K hK=>?_)
   refine iR func125 aB rfl #[.string ((au aK a2).f2),ah bh,.string cc] (by rfl) rfl rfl aW ?_
   with_reducible refine (tC.calls Ig ((au aK a2).f2) bh cc du _ Bh.out).mono ?_
   rintro e Bj ⟨rfl,hb⟩
   refine ⟨_,rfl,?_⟩
   obtain ⟨a7,a5,a6,eu,dh,nV,HB⟩:=oZ (aj a7) (aj a5) (aj a6) (aj eu) (aj dh) (aj nV) ay hb
   (try clear hb)
   refine hK.out _ _ (nK a7.out ⟨(aO a5.out 0).trans rfl,qh a6.out⟩) (fun hH=>?_)
   clear hK K
   refine fD (some 88) ?_
   refine gB (i:=9) (N:=some 89) Sz rfl rfl (jW aS.out aB) (by decide) (fun K hK=>?_)
   refine iR func124 aB rfl #[.agg #[ah b8,ah b9,ah ba,ah bb],.agg #[.slice (some aq) aK.length bc],ah a2,.string du] (by rfl) rfl rfl aW ?_
   with_reducible refine (xu.calls Ig b8 b9 ba bb _ _ aK a2 du bj dv _ l9 d3.out fo.out).mono ?_
   rintro e Ag ⟨Eb,rfl,ho0,hb⟩
   refine ⟨_,rfl,?_⟩
   obtain ⟨qA,a7,a5,a6,eu,dh,nV,HB⟩:=p_ (Kd.dK ho0 (dO ay)) <| oZ (aj a7) (aj a5) (aj a6) (aj eu) (aj dh) (aj nV) ay hb
   (try clear hb)
   (try clear ho0)
   refine hK.out _ _ (nK a7.out ⟨(aO a5.out 0).trans rfl,qh a6.out⟩) (fun hH=>?_)
   clear hK K
   refine fD (some 89) ?_
   refine eY 10 79 SA aS ?_
   refine eY 11 90 SB aS ?_
   refine eY 12 91 EG aS ?_
   exact rW wF (uf (Eb,ag) _ ⟨hH,(aG qA),(aj a7),(aj a5),(aj a6),(aj eu),(aj dh),(aj nV),kM.out,dp.out,b3.out,cn.out,ca.out,co.out,ap.out,cp.out,fF.out,b4.out,dM.out,ae.out,ay⟩)
 rintro ⟨Eb,ag⟩ b7 ⟨vJ,zT,zU,zV,zW,zX,zY,zZ,z_,NU,NV,NH,NI,NJ,NK,NM,NP,NQ,NR,NS,NT⟩
 obtain ⟨qA,a7,a5,a6,eu,dh,nV,kM,dp,b3,cn,ca,co,ap,cp,fF,b4,dM,ae,HB⟩:=fM (⟨zT⟩:aA (Kd.R bF 43 b7 w.heap.size (fun _=>True) Eb bj)) <| fM (⟨zU⟩:aA (b7.heap[af]?=some (.cells #[ah b8,ah b9,ah ba,ah bb] 25))) <| fM (⟨zV⟩:aA (b7.heap[aw]?=some (.cells #[.slice (some aq) aK.length bc] 28))) <| fM (⟨zW⟩:aA (b7.heap[a9]?=some (.cells #[ah cq,.string cr,.string ct,ah bh,ah bi,.string cc] 45))) <| fM (⟨zX⟩:aA (b7.heap[an]?=some (.cells #[.slice none 0 0] 28))) <| fM (⟨zY⟩:aA (b7.heap[aa]?=some (.cells #[ah 0,.string (⟨#[]⟩:ByteArray),ah 0,.bool false,.slice none 0 0] 49))) <| fM (⟨zZ⟩:aA (b7.heap[ag]?=some (.cells #[.slice none 0 0] 28))) <| fM (⟨z_⟩:aA (w.heap.size≤ag)) <| fM (⟨NU⟩:aA (w.heap.size≤ag)) <| fM (⟨NV⟩:aA (af≠ag)) <| fM (⟨NH⟩:aA (ag≠af)) <| fM (⟨NI⟩:aA (aw≠ag)) <| fM (⟨NJ⟩:aA (ag≠aw)) <| fM (⟨NK⟩:aA (a9≠ag)) <| fM (⟨NM⟩:aA (ag≠a9)) <| fM (⟨NP⟩:aA (an≠ag)) <| fM (⟨NQ⟩:aA (ag≠an)) <| fM (⟨NR⟩:aA (aa≠ag)) <| fM (⟨NS⟩:aA (ag≠aa)) <| (⟨NT⟩:aA (Below w.heap.size w b7))
 have hH:xB b7 af (ah b8) (ah b9) (ah ba) (ah bb) <| lD b7 aw (.slice (some aq) aK.length bc) <| zI b7 a9 (ah cq) (.string cr) (.string ct) (ah bh) (ah bi) (.string cc):=vJ
 obtain ⟨b5,b6,fb⟩:=Kd.dJ qA.out
 (first|subst fb|(injection fb with dP fZ dQ;have f_:=dP.symm;have gq:=dQ.symm;clear dP fZ dQ;subst f_;subst gq))
 refine rW (a':=?_) ?_ ?_
 rotate_left
 ·simp only [Aj,Act.put,List.setIfInBounds_toArray,List.set_cons_zero,List.set_cons_succ]
  rfl
 refine gB (i:=14) (N:=none) Nc rfl rfl (jW aS.out aB) (by decide) (fun K hK=>?_)
 have agu:b7.cell? ⟨ag,0,none⟩=some (.slice none 0 0):=(aO nV.out 0).trans rfl
 have aev:=dF nV.out 0
 obtain ⟨eb,ec,ed,dd,de,ee,ef,eh⟩:=i_ b3 ca ap fF dM cn co cp
 obtain ⟨df,dg⟩:=iJ b4 ae
 refine jr (w1:=?_) (by rfl) rfl ?_ ?_
 rotate_left
 ·go_simp
  rfl
 refine hK.out _ _ ⟨(aY b3 hH.1),(aY b3 hH.2.1),(aY b3 hH.2.2.1),(aY b3 hH.2.2.2.1),(aY ca hH.2.2.2.2.1),(aY ap hH.2.2.2.2.2.1),(aY ap hH.2.2.2.2.2.2.1),(aY ap hH.2.2.2.2.2.2.2.1),(aY ap hH.2.2.2.2.2.2.2.2.1),(aY ap hH.2.2.2.2.2.2.2.2.2.1),(aY ap hH.2.2.2.2.2.2.2.2.2.2)⟩ (fun hH=>?_)
 clear hK K
 refine eY 15 14 Nh aS ?_
 refine iF (jB aS.out aB) ?_
 go_upto_if 93 with (fail)
 (try clear eb ec ed dd de ee ef eh df dg)
 obtain ⟨H⟩:=fa
 revert H;refine fJ (fun e0 H=>?_) fun e0 H=>?_
 rotate_left
 ·have lg:=gU e0
  have fp:=gV e0
  try simp only [bI,bY,lg]
  obtain ⟨⟨Dw,Dx,Dy,jj,Dz⟩,lm,H⟩:=bd_ H
  try dsimp -simprocs only at H
  simp only [Option.some.injEq,Prod.mk.injEq] at H
  obtain ⟨rfl,rfl,rfl,rfl,rfl,rfl⟩:=H
  try go_wp2
  have gX:aA (Kd.R bF 43 (b7.setCell ⟨ag,0,none⟩ (.slice b5 bj.length b6)) w.heap.size (fun _=>True) (.slice b5 bj.length b6) bj):=⟨Xb⟩
  have lN:aA ((b7.setCell ⟨ag,0,none⟩ (.slice b5 bj.length b6)).heap[af]?=some (.cells #[ah b8,ah b9,ah ba,ah bb] 25)):=⟨bH⟩
  have lQ:aA ((b7.setCell ⟨ag,0,none⟩ (.slice b5 bj.length b6)).heap[aw]?=some (.cells #[.slice (some aq) aK.length bc] 28)):=⟨bH⟩
  have lS:aA ((b7.setCell ⟨ag,0,none⟩ (.slice b5 bj.length b6)).heap[a9]?=some (.cells #[ah cq,.string cr,.string ct,ah bh,ah bi,.string cc] 45)):=⟨bH⟩
  have lT:aA ((b7.setCell ⟨ag,0,none⟩ (.slice b5 bj.length b6)).heap[an]?=some (.cells #[.slice none 0 0] 28)):=⟨bH⟩
  have mV:aA ((b7.setCell ⟨ag,0,none⟩ (.slice b5 bj.length b6)).heap[aa]?=some (.cells #[ah 0,.string (⟨#[]⟩:ByteArray),ah 0,.bool false,.slice none 0 0] 49)):=⟨bH⟩
  have oP:aA ((b7.setCell ⟨ag,0,none⟩ (.slice b5 bj.length b6)).heap[ag]?=some (.cells #[.slice b5 bj.length b6] 28)):=⟨bH⟩
  have sZ:aA (Below w.heap.size w (b7.setCell ⟨ag,0,none⟩ (.slice b5 bj.length b6))):=⟨ay⟩
  (try clear qA)
  (try clear a7)
  (try clear a5)
  (try clear a6)
  (try clear eu)
  (try clear dh)
  (try clear nV)
  (try clear HB)
  generalize (b7.setCell ⟨ag,0,none⟩ (.slice b5 bj.length b6))=ln at gX lN lQ lS lT mV oP sZ ⊢
  have qA:=gX
  have a7:=lN
  have a5:=lQ
  have a6:=lS
  have eu:=lT
  have dh:=mV
  have nV:=oP
  have HB:=sZ
  clear gX lN lQ lS lT mV oP sZ
  obtain ⟨qA,a7,a5,a6,eu,dh,nV,HB⟩:=p_ (Kd.bK qA.out) <| wR a7 a5 a6 eu dh nV HB
  refine iH (n:=5) (S:=fun w'=>w'.cell? ⟨ag,0,none⟩=some (.slice b5 bj.length b6)) (ds:=[]) Gt aB rfl rfl ((aO nV.out 0).trans rfl) (fun hH=>?_)
  generalize ln.drew=mm at qA a7 a5 a6 eu dh nV HB hH ⊢
  refine xZ (i:=1) (N:=some 95) Js aB ?_
  refine ng (i:=0) (N:=some 94) (v:=?_) (a':=?_) Jt rfl rfl aB (fun _ _ _ h=>h) (Or.inl ⟨(by rfl),?_⟩) hH ?_ ?_
  rotate_left
  ·intro w' s0
   go_simp
   with_reducible rfl
  rotate_left
  ·simp only [Act.put,List.setIfInBounds_toArray,List.set_cons_zero,List.set_cons_succ,bI,bY]
   rfl
  refine gB (i:=2) (N:=some 96) Ju rfl rfl aB (by decide) (fun K hK=>?_)
  refine iR func75 aB rfl #[ah dv] (by rfl) rfl rfl aW ?_
  with_reducible refine (lU.calls dv Dw Dx Dy jj Dz _ lm.out).mono ?_
  rintro e e4 ⟨ai4,rfl,ho0,hb⟩
  refine ⟨_,rfl,?_⟩
  obtain ⟨qA,fc,a7,a5,a6,eu,dh,nV,HB⟩:=p_ (Kd.bn (aG qA) hb) <| p_ (Kd.dK ho0 (dO ay)) <| oZ (aj a7) (aj a5) (aj a6) (aj eu) (aj dh) (aj nV) ay hb
  (try clear hb)
  (try clear ho0)
  obtain ⟨DC,DF,fd⟩:=Kd.dJ fc.out
  (first|subst fd|(injection fd with dP fZ dQ;have f_:=dP.symm;have gq:=dQ.symm;clear dP fZ dQ;subst f_;subst gq))
  refine hK.out _ _ ((aO nV.out 0).trans rfl) (fun hH=>?_)
  clear hK K
  refine fD (some 96) ?_
  refine gB (i:=3) (N:=none) Gu rfl rfl aB (by decide) (fun K hK=>?_)
  have agB:e4.cell? ⟨an,0,none⟩=some (.slice none 0 0):=(aO eu.out 0).trans rfl
  have aeC:=dF eu.out 0
  obtain ⟨cv,cd,aN,cx,df,jg,ce,aT⟩:=i_ bq az ab bw b4 br bd aP
  obtain ⟨cw,dd⟩:=iJ bv fF
  refine jr (w1:=?_) (by rfl) rfl ?_ ?_
  rotate_left
  ·go_simp
   rfl
  refine hK.out _ _ ((aY b4 hH)) (fun hH=>?_)
  clear hK K
  refine gB (i:=4) (N:=none) Gv rfl rfl aB (by decide) (fun K hK=>?_)
  have agC:e4.cell? ⟨aa,0,none⟩=some (ah 0):=(aO dh.out 0).trans rfl
  have aeD:=dF dh.out 0
  obtain ⟨cz,cf,al,dg,cy,cg,am,de⟩:=i_ bs ac a8 ae bu be ai dM
  have aag:e4.cell? ⟨aa,1,none⟩=some (.string (⟨#[]⟩:ByteArray)):=(aO dh.out 1).trans rfl
  have ZR:=dF dh.out 1
  have aah:e4.cell? ⟨aa,2,none⟩=some (ah 0):=(aO dh.out 2).trans rfl
  have ZT:=dF dh.out 2
  have aai:e4.cell? ⟨aa,3,none⟩=some (.bool false):=(aO dh.out 3).trans rfl
  have ZU:=dF dh.out 3
  have aaj:e4.cell? ⟨aa,4,none⟩=some (.slice none 0 0):=(aO dh.out 4).trans rfl
  have ZV:=dF dh.out 4
  refine jr (w1:=?_) (by rfl) rfl ?_ ?_
  rotate_left
  ·go_simp
   rfl
  refine hK.out _ _ ((aY ae (aY ae (aY ae (aY ae (aY ae hH)))))) (fun hH=>?_)
  clear hK K
  refine iF aB ?_
  try go_wp2
  refine bodyPost_ret (nD rfl _ _ an aa 28 49 #[.slice b5 bj.length b6] #[ah Dw,.string Dx,ah Dy,.bool jj,.slice DC Dz.length DF] (0,0) (0,0) _ _ rfl bH underlying28 rfl aB rfl bH underlying49 rfl aB) rfl ?_
  exact ⟨_,_,b_,WS,(by (with_reducible repeat (first|apply Kd.dR|apply Kd.dS|apply Kd.bK));exact Kd.bW (aU (aU (aU (aU (aU (aU (Kd.dL (Kd.dL fc.out eu.out (by decide)) dh.out (by decide)) (fun _ hk=>hk.1.2))))))) (fun _ hk=>trivial)),ay⟩
 have lg:=gZ e0
 have fp:=g_ e0
 clear e0
 try simp only [bI,bY,lg]
 simp only [Option.some.injEq,Prod.mk.injEq] at H
 obtain ⟨rfl,rfl,rfl,rfl,rfl,rfl⟩:=H
 try go_wp2
 have gX:aA (Kd.R bF 43 (b7.setCell ⟨ag,0,none⟩ (.slice b5 bj.length b6)) w.heap.size (fun _=>True) (.slice b5 bj.length b6) bj):=⟨Xb⟩
 have lN:aA ((b7.setCell ⟨ag,0,none⟩ (.slice b5 bj.length b6)).heap[af]?=some (.cells #[ah b8,ah b9,ah ba,ah bb] 25)):=⟨bH⟩
 have lQ:aA ((b7.setCell ⟨ag,0,none⟩ (.slice b5 bj.length b6)).heap[aw]?=some (.cells #[.slice (some aq) aK.length bc] 28)):=⟨bH⟩
 have lS:aA ((b7.setCell ⟨ag,0,none⟩ (.slice b5 bj.length b6)).heap[a9]?=some (.cells #[ah cq,.string cr,.string ct,ah bh,ah bi,.string cc] 45)):=⟨bH⟩
 have lT:aA ((b7.setCell ⟨ag,0,none⟩ (.slice b5 bj.length b6)).heap[an]?=some (.cells #[.slice none 0 0] 28)):=⟨bH⟩
 have mV:aA ((b7.setCell ⟨ag,0,none⟩ (.slice b5 bj.length b6)).heap[aa]?=some (.cells #[ah 0,.string (⟨#[]⟩:ByteArray),ah 0,.bool false,.slice none 0 0] 49)):=⟨bH⟩
 have oP:aA ((b7.setCell ⟨ag,0,none⟩ (.slice b5 bj.length b6)).heap[ag]?=some (.cells #[.slice b5 bj.length b6] 28)):=⟨bH⟩
 have sZ:aA (Below w.heap.size w (b7.setCell ⟨ag,0,none⟩ (.slice b5 bj.length b6))):=⟨ay⟩
 (try clear qA)
 (try clear a7)
 (try clear a5)
 (try clear a6)
 (try clear eu)
 (try clear dh)
 (try clear nV)
 (try clear HB)
 generalize (b7.setCell ⟨ag,0,none⟩ (.slice b5 bj.length b6))=lo at gX lN lQ lS lT mV oP sZ ⊢
 have qA:=gX
 have a7:=lN
 have a5:=lQ
 have a6:=lS
 have eu:=lT
 have dh:=mV
 have nV:=oP
 have HB:=sZ
 clear gX lN lQ lS lT mV oP sZ
 obtain ⟨qA,a7,a5,a6,eu,dh,nV,HB⟩:=p_ (Kd.bK qA.out) <| wR a7 a5 a6 eu dh nV HB
 refine iH (n:=7) (S:=fun w'=>lD w' ag (.slice b5 bj.length b6) <| zI w' a9 (ah cq) (.string cr) (.string ct) (ah bh) (ah bi) (.string cc)) (ds:=[]) #[F_,F_,F_,F_,F_,F_,F_] aB rfl rfl ⟨(aO nV.out 0).trans rfl,qh a6.out⟩ (fun hH=>?_)
 generalize lo.drew=e5 at qA a7 a5 a6 eu dh nV HB hH ⊢
 refine xZ (i:=1) (N:=some 98) #[F_,ak,F_,F_,F_,F_,F_] aB ?_
 refine ng (i:=0) (N:=some 97) (v:=?_) (a':=?_) #[ak,ak,F_,F_,F_,F_,F_] rfl rfl aB (fun _ _ _ h=>h) (Or.inl ⟨(by rfl),?_⟩) hH ?_ ?_
 rotate_left
 ·rintro w' ⟨s0,s1,s2,s3,s4,s5,s6⟩
  go_simp
  with_reducible rfl
 rotate_left
 ·simp only [Act.put,List.setIfInBounds_toArray,List.set_cons_zero,List.set_cons_succ,bI,bY]
  rfl
 refine ng (i:=2) (N:=some 99) (v:=?_) (a':=?_) #[ak,ak,ak,F_,F_,F_,F_] rfl rfl aB (fun _ _ _ h=>h) (Or.inl ⟨(by rfl),?_⟩) hH ?_ ?_
 rotate_left
 ·rintro w' ⟨s0,s1,s2,s3,s4,s5,s6⟩
  go_simp
  with_reducible rfl
 rotate_left
 ·simp only [Act.put,List.setIfInBounds_toArray,List.set_cons_zero,List.set_cons_succ,bI,bY]
  rfl
 refine xZ (i:=3) (N:=some 100) #[ak,ak,ak,ak,F_,F_,F_] aB ?_
 refine xZ (i:=4) (N:=some 101) #[ak,ak,ak,ak,ak,F_,F_] aB ?_
 refine gB (i:=5) (N:=none) #[ak,ak,ak,ak,ak,ak,F_] rfl rfl aB (by decide) (fun K hK=>?_)
 have agv:e5.cell? ⟨an,0,none⟩=some (.slice none 0 0):=(aO eu.out 0).trans rfl
 have aew:=dF eu.out 0
 obtain ⟨cv,cd,aN,cx,df,jg,ce,aT⟩:=i_ bq az ab bw b4 br bd aP
 obtain ⟨cw,dd⟩:=iJ bv fF
 refine jr (w1:=?_) (by rfl) rfl ?_ ?_
 rotate_left
 ·go_simp
  rfl
 refine hK.out _ _ ⟨(aY b4 hH.1),(aY ab hH.2.1),(aY ab hH.2.2.1),(aY ab hH.2.2.2.1),(aY ab hH.2.2.2.2.1),(aY ab hH.2.2.2.2.2.1),(aY ab hH.2.2.2.2.2.2)⟩ (fun hH=>?_)
 clear hK K
 refine gB (i:=6) (N:=none) #[ak,ak,ak,ak,ak,ak,ak] rfl rfl aB (by decide) (fun K hK=>?_)
 have agw:e5.cell? ⟨aa,0,none⟩=some (ah 0):=(aO dh.out 0).trans rfl
 have aex:=dF dh.out 0
 obtain ⟨cz,cf,al,dg,cy,cg,am,de⟩:=i_ bs ac a8 ae bu be ai dM
 have agx:e5.cell? ⟨aa,1,none⟩=some (.string (⟨#[]⟩:ByteArray)):=(aO dh.out 1).trans rfl
 have aey:=dF dh.out 1
 have agy:e5.cell? ⟨aa,2,none⟩=some (ah 0):=(aO dh.out 2).trans rfl
 have aez:=dF dh.out 2
 have agz:e5.cell? ⟨aa,3,none⟩=some (.bool false):=(aO dh.out 3).trans rfl
 have aeA:=dF dh.out 3
 have agA:e5.cell? ⟨aa,4,none⟩=some (.slice none 0 0):=(aO dh.out 4).trans rfl
 have aeB:=dF dh.out 4
 refine jr (w1:=?_) (by rfl) rfl ?_ ?_
 rotate_left
 ·go_simp
  rfl
 refine hK.out _ _ ⟨(aY ae (aY ae (aY ae (aY ae (aY ae hH.1))))),(aY a8 (aY a8 (aY a8 (aY a8 (aY a8 hH.2.1))))),(aY a8 (aY a8 (aY a8 (aY a8 (aY a8 hH.2.2.1))))),(aY a8 (aY a8 (aY a8 (aY a8 (aY a8 hH.2.2.2.1))))),(aY a8 (aY a8 (aY a8 (aY a8 (aY a8 hH.2.2.2.2.1))))),(aY a8 (aY a8 (aY a8 (aY a8 (aY a8 hH.2.2.2.2.2.1))))),(aY a8 (aY a8 (aY a8 (aY a8 (aY a8 hH.2.2.2.2.2.2)))))⟩ (fun hH=>?_)
 clear hK K
 refine iF aB ?_
 try go_wp2
 refine bodyPost_ret (nD rfl _ _ an aa 28 49 #[.slice b5 bj.length b6] #[ah 0,.string (⟨#[]⟩:ByteArray),ah (cc.size:Int),.bool false,.slice none 0 0] (0,0) (0,0) _ _ rfl bH underlying28 rfl aB rfl bH underlying49 rfl aB) rfl ?_
 exact ⟨_,_,b_,WS,tN,ay⟩

end Go.Proofs.YthejdhjpbpamoaaGreatDoor.jM
