/- Calls return what the Lean functions beside them compute. Conditions: each theorem's own. -/
import Derived.Test.YthejdhjpbpamoaaGreatDoorPkFnExactAsked
import Derived.Test.YthejdhjpbpamoaaGreatDoorPFnExactAskedx2
import Derived.Test.YthejdhjpbpamoaaGreatDoorPFnExactAskedx18
import Derived.Test.YthejdhjpbpamoaaGreatDoorPFnExactAskedx24
namespace Go.Proofs.YthejdhjpbpamoaaGreatDoor.pU
open Go.RowKit Go.Proofs.YthejdhjpbpamoaaGreatDoorW.jk Go.Proofs.YthejdhjpbpamoaaGreatDoorW.qI Go.Proofs.YthejdhjpbpamoaaGreatDoorW.vV Go.Proofs.Tryz
attribute [local go_sem] yN yR yQ yU yP yT yO yS
set_option linter.unusedVariables false
set_option maxHeartbeats 8000000
set_option maxRecDepth 100000
set_option linter.unusedSimpArgs false

mutual
def kV.j0:Nat→ByteArray→Bool→List (aF)→Int→ByteArray→ByteArray→Int→Int→ByteArray→Option ((List (aF)) × Int × ByteArray × Int × Bool × List ByteArray)
 | 0,_,_,_,_,_,_,_,_,_=>none
 | k+1,a9,aH,a7,ab,ac,ae,aa,a5,af=>if aH=true then ((rY.f a7).bind fun ag=>((oq.f 12).bind fun a8=>(some (ag,a8.1,a8.2.1,a8.2.2.1,a8.2.2.2.1,a8.2.2.2.2)))) else ((yh.f k aa 0 (a9.size:Int)).bind fun a6=>(if a5 < (wrap64 ((a9.size:Int) - a6)) then ((rY.f a7).bind fun aK=>(if 0≤a6 then (if a6≤(wrap64 (a6+a5)) then (if (wrap64 (a6+a5))≤(a9.size:Int) then (some (aK,0,a9.extract (a6:Int).toNat ((wrap64 (a6+a5)):Int).toNat,0,false,([]:List ByteArray))) else (none)) else (none)) else (none))) else ((rY.f a7).bind fun ai=>(if 0≤a6 then (if a6≤(a9.size:Int) then (if (a9.size:Int)≤(a9.size:Int) then (some (ai,0,a9.extract (a6:Int).toNat ((a9.size:Int):Int).toNat,0,false,([]:List ByteArray))) else (none)) else (none)) else (none)))))
def kV.j1:Nat→Int→ByteArray→Bool→Int→Int→Int→Int→List (aF)→Int→ByteArray→ByteArray→Int→Int→ByteArray→Option ((List (aF)) × Int × ByteArray × Int × Bool × List ByteArray)
 | 0,_,_,_,_,_,_,_,_,_,_,_,_,_,_=>none
 | k+1,x2,am,an,aa,ab,ac,ae,a7,ag,aK,ai,af,aH,a8=>if an=true then ((rY.f a7).bind fun aO=>((oq.f 12).bind fun a5=>(some (aO,a5.1,a5.2.1,a5.2.2.1,a5.2.2.2.1,a5.2.2.2.2)))) else ((vw.f k am af a8).bind fun al=>((yX.f k aa ab ac ae a7 x2 al).bind fun a9=>(if a9.2=0 then (some (a9.1,0,(⟨#[]⟩:ByteArray),(a8.size:Int),false,([]:List ByteArray))) else ((oq.f a9.2).bind fun a6=>(some (a9.1,a6.1,a6.2.1,a6.2.2.1,a6.2.2.2.1,a6.2.2.2.2))))))
end
def kV.f (k:Nat) (ag:Int) (aK:Int) (ai:Int) (aH:Int) (a5:List (aF)) (a2:Int) (aa:Int) (ac:ByteArray) (ae:ByteArray) (a8:Int) (a9:Int) (ab:ByteArray):Option ((List (aF)) × Int × ByteArray × Int × Bool × List ByteArray):=if 0≤a2 then (if a2 < (a5.length:Int) then (if aa=6 then (if a8 < 0 then (kV.j0 k ((aB a5 a2).f2) true a5 aa ac ae a8 a9 ab) else (kV.j0 k ((aB a5 a2).f2) (decide (a9 < 0)) a5 aa ac ae a8 a9 ab)) else (if aa=7 then (if a8 < 0 then (kV.j1 k a2 ((aB a5 a2).f2) true ag aK ai aH a5 aa ac ae a8 a9 ab) else (kV.j1 k a2 ((aB a5 a2).f2) (decide (a8 > (wrap64 (128 - (ab.size:Int))))) ag aK ai aH a5 aa ac ae a8 a9 ab)) else ((vC.f a9 0 128).bind fun aO=>(if aO=true then ((D6.f k ((aB a5 a2).f2) a9).bind fun al=>((yX.f k ag aK ai aH a5 a2 al).bind fun af=>((oq.f af.2).bind fun a6=>(some (af.1,a6.1,a6.2.1,a6.2.2.1,a6.2.2.2.1,a6.2.2.2.2))))) else ((rY.f a5).bind fun am=>((oq.f 12).bind fun a7=>(some (am,a7.1,a7.2.1,a7.2.2.1,a7.2.2.2.1,a7.2.2.2.2)))))))) else (none)) else (none)
def kV.T10:Bool × List (List Nat × List Nat):=(true,[([],[]),([0],[0]),([],[]),([],[]),([],[]),([2,3,4],[2,3,4]),([5],[5]),([1,1,0,1],[1]),([6,7,0,1,2,3,4,5,6,7],[6])])
def kV.B10:List Nat:=[0,1,0,0,0,28,60,3,255]
theorem kV.D9:kZ .any (opsOf Tryz.f79 10)=kV.T10:=by kernel_rfl
theorem kV.Du:vF kV.T10.2 kV.B10=true:=by kernel_rfl
def kV.aff:Bool × List (List Nat × List Nat):=(true,[([],[]),([],[]),([],[]),([],[]),([],[]),([4],[4]),([],[]),([6],[6]),([3,5,7],[3,5,7]),([0,1,2,8,8],[0,1,2,8]),([9],[9]),([10],[10]),([10],[10]),([],[]),([13,11,9,0,1,2,3,4,5,6,7,8,9,10,11,13],[11,13]),([12,14,0,1,2,3,4,5,6,7,8,9,10,11,12,13,14],[12])])
def kV.aeh:List Nat:=[0,0,0,0,0,16,0,64,248,511,1023,2047,2047,0,12287,32767]
def kV.afh:Bool × List (List Nat × List Nat):=(true,[([],[]),([],[]),([],[]),([],[]),([],[]),([4],[4]),([3,5],[3,5]),([0,1,2,6,6],[0,1,2,6]),([7],[7]),([8],[8]),([8],[8]),([],[]),([11,9,7,0,1,2,3,4,5,6,7,8,9,11],[9,11]),([10,12,0,1,2,3,4,5,6,7,8,9,10,11,12],[10])])
def kV.aek:List Nat:=[0,0,0,0,0,16,56,127,255,511,511,0,3071,8191]
theorem kV.calls (k:Nat) (b8:Int) (b9:Int) (ba:Int) (bb:Int) (fd:Option Addr) (bc:Nat) (bg:List (aF)) (a2:Int) (cq:Int) (cr:ByteArray) (ct:ByteArray) (bh:Int) (bi:Int) (cc:ByteArray) (r1:List (aF)) (r2:Int) (r3:ByteArray) (r4:Int) (r5:Bool) (r6:List ByteArray) (w:World) (en:Kd.C aS w fd bg.length bg) (eo:bg.length≤bc) (h:kV.f k b8 b9 ba bb bg a2 cq cr ct bh bi cc=some (r1,r2,r3,r4,r5,r6)) :
  Calls Tryz.prog 79 #[.agg #[ah b8,ah b9,ah ba,ah bb],.agg #[.slice fd bg.length bc],ah a2,.agg #[ah cq,.string cr,.string ct,ah bh,ah bi,.string cc]] w fun e w'=>∃ fC nG:Value,e=.returned (.tuple #[.agg #[fC],.agg #[ah r2,.string r3,ah r4,.bool r5,nG]])∧Kd.R aS 43 w' w.heap.size (fun _=>True) fC r1∧Kd.R Kd.string 9 w' w.heap.size (fun _=>True) nG r6∧Below w.heap.size w w':=by
 have LV:=underlying25;have nT:=underlying28;have Fb:=underlying45;have wE:=underlying49;have xK:=m_ en;have d3:=m_ eo;clear en eo;have HB:=m_ (Below.refl w.heap.size w);unfold kV.f at h
 have H:=h;clear h;obtain ⟨ju,H⟩:=gI H;obtain ⟨JA,H⟩:=gI H;have ls:=m_ H;clear H;go_enter func79,ntmps79
 go_upto_if 25 with (first|((with_reducible refine dJ 4 ?_);(try (refine r_ (by rfl) ?_;dsimp only));refine dO 4 (cs:=#[ah b8,ah b9,ah ba,ah bb]) 25 ?_;intro af hg w8 hbox hb;obtain ⟨HB,a7,abE,lv⟩:=jR ay hb hbox hg;clear hb hbox hg)|((with_reducible refine dJ 5 ?_);(try (refine r_ (by rfl) ?_;dsimp only));refine dO 5 (cs:=#[.slice fd bg.length bc]) 28 ?_;intro aw hg w9 hbox hb;obtain ⟨a7,HB,a5,lw,lx,d4,d5⟩:=oO (au a7) ay hb hbox hg;clear hb hbox hg)|((with_reducible refine dJ 7 ?_);(try (refine r_ (by rfl) ?_;dsimp only));refine dO 7 (cs:=#[ah cq,.string cr,.string ct,ah bh,ah bi,.string cc]) 45 ?_;intro a9 hg ms hbox hb;obtain ⟨a7,a5,HB,a6,ly,lz,bo,bp,ax,bD⟩:=rP (au a7) (au a5) ay hb hbox hg;clear hb hbox hg)|((with_reducible refine dJ 8 ?_);(try (refine r_ (by rfl) ?_;dsimp only));refine dO 8 (cs:=#[.slice none 0 0]) 28 ?_;intro an hg mt hbox hb;obtain ⟨a7,a5,a6,HB,dU,m0,m2,bq,br,az,bd,ab,aK⟩:=zl (au a7) (au a5) (au a6) ay hb hbox hg;clear hb hbox hg)|((with_reducible refine dJ 9 ?_);(try (refine r_ (by rfl) ?_;dsimp only));refine dO 9 (cs:=#[ah 0,.string (⟨#[]⟩:ByteArray),ah 0,.bool false,.slice none 0 0]) 49 ?_;intro aa hg ei hbox hb;obtain ⟨a7,a5,a6,dU,HB,dh,m3,m4,bs,bu,ac,be,a8,ai,bv,bw⟩:=Ho (au a7) (au a5) (au a6) (au dU) ay hb hbox hg;clear hb hbox hg;obtain ⟨d6,d7,b0,b1,cd,ce,cf,cg⟩:=iq d5 d4 ax bD az bd ac be;have Xo:=bZ a5.out;have e6:0≤(a2:Int):=aX aY;have e7:a2 < (bg.length:Int):=aX aY;obtain ⟨aq,JB,d8,d9,da⟩:=jV xK.out a2 e6 e7;cases JB;replace d8:=fF HB.out d8;replace d9:=fF HB.out d9;replace da:=fF HB.out da;replace e6:=eq_true e6;replace e7:=eq_true e7;obtain ⟨bl,bm,aH,aO,al,am⟩:=lU bp bo ab aK a8 ai;have e8:=mg a6.out))
 (try simp only [fM])
 (try clear d7 bm d6 b0 cd cf bl b1 aH al ce aO cg am)
 (try clear Xo)
 (try clear e8)
 (try clear Xo)
 (try clear d8 d9 da)
 obtain ⟨H⟩:=ls;revert H;refine eU (fun ej H=>?_) fun ej H=>?_
 ·have db:=fU ej;have e9:=fV ej;clear ej;try simp only [aV,aZ,db]
  have fe:=m_ H;clear H;go_upto_region 4 with (fail)
  go_cut [34] (fun v34 wc=>∃ (kq:Nat) (dq:Bool),v34=.bool dq∧aA (kV.j0 kq ((aB bg a2).f2) dq bg cq cr ct bh bi cc=some (r1,r2,r3,r4,r5,r6))∧aA (kq≤k)∧aA (wc.heap[af]?=some (.cells #[ah b8,ah b9,ah ba,ah bb] 25))∧aA (wc.heap[aw]?=some (.cells #[(.slice (some aq) bg.length bc)] 28))∧aA (wc.heap[a9]?=some (.cells #[ah cq,.string cr,.string ct,ah bh,ah bi,.string cc] 45))∧aA (wc.heap[an]?=some (.cells #[(.slice none 0 0)] 28))∧aA (wc.heap[aa]?=some (.cells #[ah 0,.string (⟨#[]⟩:ByteArray),ah 0,.bool false,(.slice none 0 0)] 49))∧aA (Below w.heap.size w wc))
  case first =>
   obtain ⟨H⟩:=fe;revert H;refine fB (fun di H=>?_) fun di H=>?_
   ·try simp only [aV,aZ,di]
    have H':=m_ H;clear H;obtain ⟨bl,bm,b1,b0,aH,aO,al,am⟩:=iq bp bo bD ax ab aK a8 ai;have fg:=mg a6.out;go_wp2
    go_meet
    case rel=>exact ⟨_,(true),bC,H',⟨lM⟩,⟨(au a7)⟩,⟨(au a5)⟩,⟨(au a6)⟩,⟨(au dU)⟩,⟨(au dh)⟩,⟨ay⟩⟩
   try simp only [aV,aZ,di]
   have H':=m_ H;clear H;obtain ⟨bl,bm,b1,b0,aH,aO,al,am⟩:=iq bp bo bD ax ab aK a8 ai;have ek:=mg a6.out;go_wp2
   go_meet
   case rel=>exact ⟨_,(decide (bi < 0)),bC,H',⟨lM⟩,⟨(au a7)⟩,⟨(au a5)⟩,⟨(au a6)⟩,⟨(au dU)⟩,⟨(au dh)⟩,⟨ay⟩⟩
  case rest =>
  clear fe;try clear c5;try clear ju;try clear c6;try clear JA;try clear ej;try clear db;try clear e9;try clear e6;try clear e7
  obtain ⟨kq,dq,rfl,HA,ap4,a7,a5,a6,dU,dh,HB⟩:=hcut;cases kq with
  | zero=>exact absurd HA.out (by simp [kV.j0])
  | succ amn =>
  obtain ⟨H⟩:=HA;simp only [kV.j0] at H
  by_cases fr:dq=true
  ·subst fr;rw [if_pos rfl] at H;obtain ⟨fs,m7,H⟩:=bd_ H;obtain ⟨⟨ft,fu,fw,fx,fy⟩,m8,H⟩:=bd_ H;simp only [gV] at H
   obtain ⟨rfl,rfl,rfl,rfl,rfl,rfl⟩:=H;obtain ⟨d6,d7,b0,b1,cd,ce,cf,cg⟩:=iq d5 d4 ax bD az bd ac be;have Xq:=bZ a5.out;go_wp2_with (first|((with_reducible refine cu 73 ?_);refine cO (some 36) rfl rfl func73 aC rfl #[.agg #[.slice (some aq) bg.length bc]] rfl bJ ?_;(with_reducible refine (rY.calls _ _ bg fs _ pK d3.out m7.out).mono ?_);rintro e nb ⟨aDy,rfl,ho0,hb⟩;refine ⟨_,rfl,?_⟩;obtain ⟨lC,a7,a5,a6,dU,dh,HB⟩:=p_ (Kd.dR ho0 (bU ay)) <| qJ (au a7) (au a5) (au a6) (au dU) (au dh) ay hb;(try clear hb);(try clear ho0))|((with_reducible refine cu 75 ?_);refine cO (some 37) rfl rfl func75 aC rfl #[ah 12] rfl bJ ?_;(with_reducible refine (oq.calls 12 ft fu fw fx fy _ m8.out).mono ?_);rintro e nc ⟨aDz,rfl,ho0,hb⟩;refine ⟨_,rfl,?_⟩;obtain ⟨lC,ep,a7,a5,a6,dU,dh,HB⟩:=p_ (Kd.bG (aN lC) hb) <| p_ (Kd.dR ho0 (bU ay)) <| qJ (au a7) (au a5) (au a6) (au dU) (au dh) ay hb;(try clear hb);(try clear ho0);obtain ⟨jx,JC,jz⟩:=Kd.dN lC.out;subst jz;obtain ⟨fE,cv,aO,aH,cw,cx⟩:=lU br bq aK ab bv bw;have aeb:=bZ dU.out;obtain ⟨cy,cz,am,al⟩:=iD bu bs ai a8;have fz:=jc dh.out;obtain ⟨l5,l6,DN⟩:=Kd.dN ep.out;subst DN))
   refine bodyPost_ret (jq rfl _ _ an aa 28 49 #[.slice jx fs.length JC] #[ah ft,.string fu,ah fw,.bool fx,.slice l5 fy.length l6] (0,0) (0,0) _ _ rfl bf underlying28 rfl aC rfl bf underlying49 rfl aC) rfl ?_;exact ⟨_,_,bK,(by (with_reducible repeat (first|apply Kd.bW|apply Kd.bY|apply Kd.bH));exact Kd.bF (aJ (aJ (aJ (aJ (aJ (aJ (Kd.bV (Kd.bV lC.out dU.out (by decide)) dh.out (by decide)) (fun _ hk=>hk.1.2))))))) (fun _ hk=>trivial)),(by (with_reducible repeat (first|apply Kd.bW|apply Kd.bY|apply Kd.bH));exact Kd.bF (aJ (aJ (aJ (aJ (aJ (aJ (Kd.bV (Kd.bV ep.out dU.out (by decide)) dh.out (by decide)) (fun _ hk=>hk.1.2))))))) (fun _ hk=>trivial)),ay⟩
  replace fr:=Bool.eq_false_iff.mpr fr;subst fr;rw [if_neg iF] at H;obtain ⟨ea,m9,H⟩:=bd_ H;have ga:=m_ H;clear H;obtain ⟨bl,bm,b1,b0,aH,aO,al,am⟩:=iq bp bo bD ax ab aK a8 ai;have fh:=mg a6.out;go_upto_if 50 with (first|((with_reducible refine cu 123 ?_);refine cO (some 42) rfl rfl func123 aC rfl #[ah bh,ah 0,ah (((aB bg a2).f2).size:Int)] rfl bJ ?_;(with_reducible refine (yh.calls amn bh 0 (((aB bg a2).f2).size:Int) ea _ m9.out).mono ?_);rintro e w' ⟨rfl,⟨nd,rfl⟩⟩;refine ⟨_,rfl,?_⟩))
  (try simp only [fM])
  (try clear bm b0 bl b1 aH al aO am)
  (try clear fh)
  obtain ⟨H⟩:=ga;revert H;refine fB (fun dj H=>?_) fun dj H=>?_;rotate_left
  ·try simp only [aV,aZ,dj]
   obtain ⟨gc,ma,H⟩:=bd_ H;obtain ⟨gd,ge,H⟩:=jF H;obtain ⟨gf,gh,H⟩:=jF H;obtain ⟨gi,gj,H⟩:=jF H;simp only [gV] at H
   obtain ⟨rfl,rfl,rfl,rfl,rfl,rfl⟩:=H;try go_wp2
   (try (rw [Sv wc];generalize sZ:World.drewN wc _=wc;have ji:=bT (⟨(by rw [← sZ];exact (au a7))⟩:aA (wc.heap[af]?=some (.cells #[ah b8,ah b9,ah ba,ah bb] 25))) <| bT (⟨(by rw [← sZ];exact (au a5))⟩:aA (wc.heap[aw]?=some (.cells #[.slice (some aq) bg.length bc] 28))) <| bT (⟨(by rw [← sZ];exact (au a6))⟩:aA (wc.heap[a9]?=some (.cells #[ah cq,.string cr,.string ct,ah bh,ah bi,.string cc] 45))) <| bT (⟨(by rw [← sZ];exact (au dU))⟩:aA (wc.heap[an]?=some (.cells #[.slice none 0 0] 28))) <| bT (⟨(by rw [← sZ];exact (au dh))⟩:aA (wc.heap[aa]?=some (.cells #[ah 0,.string (⟨#[]⟩:ByteArray),ah 0,.bool false,.slice none 0 0] 49))) <| (⟨(by rw [← sZ];exact ay)⟩:aA (Below w.heap.size w wc));clear a7 a5 a6 dU dh HB sZ;obtain ⟨a7,a5,a6,dU,dh,HB⟩:=ji))
   obtain ⟨a7,a5,a6,dU,dh,HB⟩:=Ad a7 a5 a6 dU dh HB;refine iU (n:=9) (S:=fun w'=>w'.cell? ⟨aw,0,none⟩=some (.slice (some aq) bg.length bc)) (ds:=[]) KR aC rfl rfl ((aQ a5.out 0).trans rfl) (fun hH=>?_);refine kF kV.D9 kV.Du (fun aP fK=>?_);generalize wc.drew=ne at a7 a5 a6 dU dh HB hH ⊢;refine dF 2 57 YF aP ?_;refine dF 3 58 YG aP ?_;refine dF 4 59 YH aP ?_;refine dF 5 60 YI aP ?_;refine dF 6 61 YJ aP ?_;refine qX (i:=0) (N:=some 55) (v:=?_) (a':=?_) YK rfl rfl (MS aP.out fK.out aC) (fun _ _ _ h=>h) (Or.inl ⟨(by rfl),?_⟩) hH ?_ ?_;rotate_left
   ·intro w' s0;go_simp
    with_reducible rfl
   rotate_left
   ·simp only [fM,aV,aZ]
    rfl
   refine iy (i:=1) (N:=some 56) YS rfl rfl (lG aP.out aC) (by decide) (fun K hK=>?_);refine jw func73 aC rfl #[.agg #[.slice (some aq) bg.length bc]] (by rfl) rfl rfl bJ ?_
   with_reducible refine (rY.calls _ _ bg gc _ pK d3.out ma.out).mono ?_
   rintro e fp ⟨aDB,rfl,ho0,hb⟩;refine ⟨_,rfl,?_⟩;obtain ⟨eq,a7,a5,a6,dU,dh,HB⟩:=p_ (Kd.dR ho0 (bU ay)) <| qJ (au a7) (au a5) (au a6) (au dU) (au dh) ay hb;(try clear hb)
   (try clear ho0)
   obtain ⟨l8,FK,gl⟩:=Kd.dN eq.out;(first|subst gl|(injection gl with eu iE eF;have iJ:=eu.symm;have iK:=eF.symm;clear eu iE eF;subst iJ;subst iK))
   refine hK.out _ _ ((aQ a5.out 0).trans rfl) (fun hH=>?_);clear hK K;refine gY (some 56) ?_;refine iy (i:=7) (N:=none) YT rfl rfl (lG aP.out aC) (by decide) (fun K hK=>?_);have aCf:fp.cell? ⟨an,0,none⟩=some (.slice none 0 0):=(aQ dU.out 0).trans rfl;have awn:=cZ dU.out 0;obtain ⟨cv,cd,aH,cx,fE,ce,aO,cw⟩:=iq bq az ab bw br bd aK bv;refine jD (w1:=?_) (by rfl) rfl ?_ ?_;rotate_left
   ·go_simp
    rfl
   refine hK.out _ _ ((aG az hH)) (fun hH=>?_);clear hK K;refine iy (i:=8) (N:=none) YU rfl rfl (lG aP.out aC) (by decide) (fun K hK=>?_);have aCg:fp.cell? ⟨aa,0,none⟩=some (ah 0):=(aQ dh.out 0).trans rfl;have awo:=cZ dh.out 0;obtain ⟨cz,cf,al,cy,cg,am⟩:=lU bs ac a8 bu be ai;have aCh:fp.cell? ⟨aa,1,none⟩=some (.string (⟨#[]⟩:ByteArray)):=(aQ dh.out 1).trans rfl;have awp:=cZ dh.out 1;have aCi:fp.cell? ⟨aa,2,none⟩=some (ah 0):=(aQ dh.out 2).trans rfl;have awq:=cZ dh.out 2;have aCj:fp.cell? ⟨aa,3,none⟩=some (.bool false):=(aQ dh.out 3).trans rfl;have awr:=cZ dh.out 3;have aCk:fp.cell? ⟨aa,4,none⟩=some (.slice none 0 0):=(aQ dh.out 4).trans rfl;have awt:=cZ dh.out 4;refine jD (w1:=?_) (by rfl) rfl ?_ ?_;rotate_left
   ·go_simp
    rfl
   refine hK.out _ _ ((aG ac (aG ac (aG ac (aG ac (aG ac hH)))))) (fun hH=>?_);clear hK K;refine jd (kC aP.out aC) ?_;try go_wp2
   refine bodyPost_ret (jq rfl _ _ an aa 28 49 #[.slice l8 gc.length FK] #[ah 0,.string (((aB bg a2).f2).extract (ea:Int).toNat ((((aB bg a2).f2).size:Int):Int).toNat),ah 0,.bool false,.slice none 0 0] (0,0) (0,0) _ _ rfl bf underlying28 rfl aC rfl bf underlying49 rfl aC) rfl ?_;exact ⟨_,_,bK,(by (with_reducible repeat (first|apply Kd.bW|apply Kd.bY|apply Kd.bH));exact Kd.bF (aJ (aJ (aJ (aJ (aJ (aJ (Kd.bV (Kd.bV eq.out dU.out (by decide)) dh.out (by decide)) (fun _ hk=>hk.1.2))))))) (fun _ hk=>trivial)),lH,ay⟩
  try simp only [aV,aZ,dj]
  obtain ⟨gm,mb,H⟩:=bd_ H;obtain ⟨gn,go,H⟩:=jF H;obtain ⟨la,H⟩:=lT H;have gp:=eq_true la;have BU:=nJ la;obtain ⟨lc,H⟩:=lT H;have gr:=eq_true lc;have gs:=nJ lc;simp only [gV] at H
  obtain ⟨rfl,rfl,rfl,rfl,rfl,rfl⟩:=H;have gt:=mg a6.out;try go_wp2
  (try (rw [Sv wc];generalize sZ:World.drewN wc _=wc;have ji:=bT (⟨(by rw [← sZ];exact (au a7))⟩:aA (wc.heap[af]?=some (.cells #[ah b8,ah b9,ah ba,ah bb] 25))) <| bT (⟨(by rw [← sZ];exact (au a5))⟩:aA (wc.heap[aw]?=some (.cells #[.slice (some aq) bg.length bc] 28))) <| bT (⟨(by rw [← sZ];exact (au a6))⟩:aA (wc.heap[a9]?=some (.cells #[ah cq,.string cr,.string ct,ah bh,ah bi,.string cc] 45))) <| bT (⟨(by rw [← sZ];exact (au dU))⟩:aA (wc.heap[an]?=some (.cells #[.slice none 0 0] 28))) <| bT (⟨(by rw [← sZ];exact (au dh))⟩:aA (wc.heap[aa]?=some (.cells #[ah 0,.string (⟨#[]⟩:ByteArray),ah 0,.bool false,.slice none 0 0] 49))) <| (⟨(by rw [← sZ];exact ay)⟩:aA (Below w.heap.size w wc));clear a7 a5 a6 dU dh HB sZ;obtain ⟨a7,a5,a6,dU,dh,HB⟩:=ji))
  obtain ⟨a7,a5,a6,dU,dh,HB⟩:=Ad a7 a5 a6 dU dh HB;refine iU (n:=9) (S:=fun w'=>w'.cell? ⟨aw,0,none⟩=some (.slice (some aq) bg.length bc)) (ds:=[]) KR aC rfl rfl ((aQ a5.out 0).trans rfl) (fun hH=>?_);refine kF kV.D9 kV.Du (fun aP fK=>?_);generalize wc.drew=nf at a7 a5 a6 dU dh HB hH ⊢;refine dF 2 57 YF aP ?_;refine dF 3 58 YG aP ?_;refine dF 4 59 YH aP ?_;refine dF 5 60 YI aP ?_;refine dF 6 61 YJ aP ?_;refine qX (i:=0) (N:=some 55) (v:=?_) (a':=?_) YK rfl rfl (MS aP.out fK.out aC) (fun _ _ _ h=>h) (Or.inl ⟨(by rfl),?_⟩) hH ?_ ?_;rotate_left
  ·intro w' s0;go_simp
   with_reducible rfl
  rotate_left
  ·simp only [fM,aV,aZ]
   rfl
  refine iy (i:=1) (N:=some 56) YS rfl rfl (lG aP.out aC) (by decide) (fun K hK=>?_);refine jw func73 aC rfl #[.agg #[.slice (some aq) bg.length bc]] (by rfl) rfl rfl bJ ?_
  with_reducible refine (rY.calls _ _ bg gm _ pK d3.out mb.out).mono ?_
  rintro e fq ⟨aDA,rfl,ho0,hb⟩;refine ⟨_,rfl,?_⟩;obtain ⟨er,a7,a5,a6,dU,dh,HB⟩:=p_ (Kd.dR ho0 (bU ay)) <| qJ (au a7) (au a5) (au a6) (au dU) (au dh) ay hb;(try clear hb)
  (try clear ho0)
  obtain ⟨ld,lf,vN⟩:=Kd.dN er.out;(first|subst vN|(injection vN with eu iE eF;have iJ:=eu.symm;have iK:=eF.symm;clear eu iE eF;subst iJ;subst iK))
  refine hK.out _ _ ((aQ a5.out 0).trans rfl) (fun hH=>?_);clear hK K;refine gY (some 56) ?_;refine iy (i:=7) (N:=none) YT rfl rfl (lG aP.out aC) (by decide) (fun K hK=>?_);have alL:fq.cell? ⟨an,0,none⟩=some (.slice none 0 0):=(aQ dU.out 0).trans rfl;have ajd:=cZ dU.out 0;obtain ⟨cv,cd,cx,fE,ce,cw⟩:=lU bq az bw br bd bv;refine jD (w1:=?_) (by rfl) rfl ?_ ?_;rotate_left
  ·go_simp
   rfl
  refine hK.out _ _ ((aG az hH)) (fun hH=>?_);clear hK K;refine iy (i:=8) (N:=none) YU rfl rfl (lG aP.out aC) (by decide) (fun K hK=>?_);have aB7:fq.cell? ⟨aa,0,none⟩=some (ah 0):=(aQ dh.out 0).trans rfl;have awd:=cZ dh.out 0;obtain ⟨cz,cf,cy,cg⟩:=iD bs ac bu be;have alM:fq.cell? ⟨aa,1,none⟩=some (.string (⟨#[]⟩:ByteArray)):=(aQ dh.out 1).trans rfl;have aje:=cZ dh.out 1;have aB8:fq.cell? ⟨aa,2,none⟩=some (ah 0):=(aQ dh.out 2).trans rfl;have awe:=cZ dh.out 2;have aB9:fq.cell? ⟨aa,3,none⟩=some (.bool false):=(aQ dh.out 3).trans rfl;have awf:=cZ dh.out 3;have aB_:fq.cell? ⟨aa,4,none⟩=some (.slice none 0 0):=(aQ dh.out 4).trans rfl;have awg:=cZ dh.out 4;refine jD (w1:=?_) (by rfl) rfl ?_ ?_;rotate_left
  ·go_simp
   rfl
  refine hK.out _ _ ((aG ac (aG ac (aG ac (aG ac (aG ac hH)))))) (fun hH=>?_);clear hK K;refine jd (kC aP.out aC) ?_;try go_wp2
  refine bodyPost_ret (jq rfl _ _ an aa 28 49 #[.slice ld gm.length lf] #[ah 0,.string (((aB bg a2).f2).extract (ea:Int).toNat ((wrap64 (ea+bi)):Int).toNat),ah 0,.bool false,.slice none 0 0] (0,0) (0,0) _ _ rfl bf underlying28 rfl aC rfl bf underlying49 rfl aC) rfl ?_;exact ⟨_,_,bK,(by (with_reducible repeat (first|apply Kd.bW|apply Kd.bY|apply Kd.bH));exact Kd.bF (aJ (aJ (aJ (aJ (aJ (aJ (Kd.bV (Kd.bV er.out dU.out (by decide)) dh.out (by decide)) (fun _ hk=>hk.1.2))))))) (fun _ hk=>trivial)),lH,ay⟩
 have db:=fZ ej;have e9:=f_ ej;try simp only [aV,aZ,db]
 revert H;refine eU (fun es H=>?_) fun es H=>?_;rotate_left
 ·have et:=fZ es;have tN:=f_ es;obtain ⟨gv,xw,H⟩:=bd_ H;have ev:=m_ H;clear H;obtain ⟨bl,bm,b1,b0,aH,aO,al,am⟩:=iq bp bo bD ax ab aK a8 ai;have gw:=mg a6.out;go_upto_if 105 with (first|((with_reducible refine cu 98 ?_);refine cO (some 104) rfl rfl func98 aC rfl #[ah bi,ah 0,ah 128] rfl bJ ?_;(with_reducible refine (vC.calls bi 0 128 gv _ xw.out).mono ?_);rintro e w' ⟨rfl,⟨nd,rfl⟩⟩;refine ⟨_,rfl,?_⟩))
  (try simp only [fM])
  (try clear bm b0 bl b1 aH al aO am)
  (try clear gw)
  obtain ⟨H⟩:=ev;by_cases el:gv=true
  rotate_left
  ·replace el:=Bool.eq_false_iff.mpr el;subst el;rw [if_neg iF] at H;obtain ⟨gx,lh,H⟩:=bd_ H;obtain ⟨⟨zy,gz,hs,hu,hy⟩,li,H⟩:=bd_ H;simp only [gV] at H
   obtain ⟨rfl,rfl,rfl,rfl,rfl,rfl⟩:=H;obtain ⟨d6,d7,b0,b1,cd,ce,cf,cg⟩:=iq d5 d4 ax bD az bd ac be;have aEo:=bZ a5.out;go_wp2_with (first|((with_reducible refine cu 73 ?_);refine cO (some 107) rfl rfl func73 aC rfl #[.agg #[.slice (some aq) bg.length bc]] rfl bJ ?_;(with_reducible refine (rY.calls _ _ bg gx _ ?jW d3.out lh.out).mono ?_);(case jW=>repeat (first|exact (Kd.qP xK.out ay)|(with_reducible refine Kd.kM ?_ _)|(with_reducible refine Kd.kR ?_ _)|(with_reducible refine Kd.kQ ?_)));rintro e mc ⟨aDG,rfl,ho0,hb⟩;refine ⟨_,rfl,?_⟩;obtain ⟨dx,a7,a5,a6,dU,dh,HB⟩:=p_ (Kd.dR ho0 (bU ay)) <| qJ (au a7) (au a5) (au a6) (au dU) (au dh) ay hb;(try clear hb);(try clear hk);(try clear ho0))|((with_reducible refine cu 75 ?_);refine cO (some 108) rfl rfl func75 aC rfl #[ah 12] rfl bJ ?_;(with_reducible refine (oq.calls 12 zy gz hs hu hy _ li.out).mono ?_);rintro e me ⟨aDH,rfl,ho0,hb⟩;refine ⟨_,rfl,?_⟩;obtain ⟨dx,ew,a7,a5,a6,dU,dh,HB⟩:=p_ (Kd.bG (aN dx) hb) <| p_ (Kd.dR ho0 (bU ay)) <| qJ (au a7) (au a5) (au a6) (au dU) (au dh) ay hb;(try clear hb);(try clear ho0);obtain ⟨i1,i2,i3⟩:=Kd.dN dx.out;subst i3;obtain ⟨fE,cv,aO,aH,cw,cx⟩:=lU br bq aK ab bv bw;have aEp:=bZ dU.out;obtain ⟨cy,cz,am,al⟩:=iD bu bs ai a8;have m5:=jc dh.out;obtain ⟨i4,i5,i6⟩:=Kd.dN ew.out;subst i6))
   refine bodyPost_ret (jq rfl _ _ an aa 28 49 #[.slice i1 gx.length i2] #[ah zy,.string gz,ah hs,.bool hu,.slice i4 hy.length i5] (0,0) (0,0) _ _ rfl bf underlying28 rfl aC rfl bf underlying49 rfl aC) rfl ?_;exact ⟨_,_,bK,(by (with_reducible repeat (first|apply Kd.bW|apply Kd.bY|apply Kd.bH));exact Kd.bF (aJ (aJ (aJ (aJ (aJ (aJ (Kd.bV (Kd.bV dx.out dU.out (by decide)) dh.out (by decide)) (fun _ hk=>hk.1.2))))))) (fun _ hk=>trivial)),(by (with_reducible repeat (first|apply Kd.bW|apply Kd.bY|apply Kd.bH));exact Kd.bF (aJ (aJ (aJ (aJ (aJ (aJ (Kd.bV (Kd.bV ew.out dU.out (by decide)) dh.out (by decide)) (fun _ hk=>hk.1.2))))))) (fun _ hk=>trivial)),ay⟩
  subst el;rw [if_pos rfl] at H;obtain ⟨dr,i7,H⟩:=bd_ H;obtain ⟨⟨d2,dy⟩,fj,H⟩:=bd_ H;obtain ⟨⟨i8,i9,ia,ib,ic⟩,lj,H⟩:=bd_ H;simp only [gV] at H
  obtain ⟨rfl,rfl,rfl,rfl,rfl,rfl⟩:=H;try go_wp2
  (try (rw [Sv ei];generalize sZ:World.drewN ei _=ei;have ji:=bT (⟨(by rw [← sZ];exact (au a7))⟩:aA (ei.heap[af]?=some (.cells #[ah b8,ah b9,ah ba,ah bb] 25))) <| bT (⟨(by rw [← sZ];exact (au a5))⟩:aA (ei.heap[aw]?=some (.cells #[.slice (some aq) bg.length bc] 28))) <| bT (⟨(by rw [← sZ];exact (au a6))⟩:aA (ei.heap[a9]?=some (.cells #[ah cq,.string cr,.string ct,ah bh,ah bi,.string cc] 45))) <| bT (⟨(by rw [← sZ];exact (au dU))⟩:aA (ei.heap[an]?=some (.cells #[.slice none 0 0] 28))) <| bT (⟨(by rw [← sZ];exact (au dh))⟩:aA (ei.heap[aa]?=some (.cells #[ah 0,.string (⟨#[]⟩:ByteArray),ah 0,.bool false,.slice none 0 0] 49))) <| (⟨(by rw [← sZ];exact ay)⟩:aA (Below w.heap.size w ei));clear a7 a5 a6 dU dh HB sZ;obtain ⟨a7,a5,a6,dU,dh,HB⟩:=ji))
  obtain ⟨a7,a5,a6,dU,dh,HB⟩:=Ad a7 a5 a6 dU dh HB;refine iU (n:=14) (S:=fun w'=>qw w' af (ah b8) (ah b9) (ah ba) (ah bb) <| jE w' aw (.slice (some aq) bg.length bc) <| oZ w' a9 (ah cq) (.string cr) (.string ct) (ah bh) (ah bi) (.string cc)) (ds:=[]) G_ aC rfl rfl (kW a7.out ⟨(aQ a5.out 0).trans rfl,jX a6.out⟩) (fun hH=>?_);refine kF (T:=kV.afh) (B:=kV.aek) aC aC (fun aP fK=>?_);generalize ei.drew=mf at a7 a5 a6 dU dh HB hH ⊢;refine dF 2 112 #[F_,F_,aj,F_,F_,F_,F_,F_,F_,F_,F_,F_,F_,F_] aP ?_;refine dF 3 113 #[F_,F_,aj,aj,F_,F_,F_,F_,F_,F_,F_,F_,F_,F_] aP ?_;refine dF 4 114 #[F_,F_,aj,aj,aj,F_,F_,F_,F_,F_,F_,F_,F_,F_] aP ?_;refine j_ 0 110 #[aj,F_,aj,aj,aj,F_,F_,F_,F_,F_,F_,F_,F_,F_] aP fK hH ?_;refine j_ 1 111 afI aP fK hH ?_;refine j_ 5 115 afJ aP fK hH ?_;refine FH (σ:=Value × Nat) 2 G9 (fun s_=>[(116,.string dr),(117,.tuple #[.agg #[s_.1],ah dy]),(15,.pointer (some ⟨s_.2,0,none⟩)),(109,.tuple #[.agg #[s_.1],ah dy]),(118,.agg #[s_.1]),(119,ah dy)]) (fun s_ w'=>(qw w' af (ah b8) (ah b9) (ah ba) (ah bb) <| jE w' aw (.slice (some aq) bg.length bc) <| oZ w' a9 (ah cq) (.string cr) (.string ct) (ah bh) (ah bi) (.string cc))∧(Kd.R aS 43 w' w.heap.size (fun _=>True) s_.1 d2)∧(w'.heap[af]?=some (.cells #[ah b8,ah b9,ah ba,ah bb] 25))∧(w'.heap[aw]?=some (.cells #[.slice (some aq) bg.length bc] 28))∧(w'.heap[a9]?=some (.cells #[ah cq,.string cr,.string ct,ah bh,ah bi,.string cc] 45))∧(w'.heap[an]?=some (.cells #[.slice none 0 0] 28))∧(w'.heap[aa]?=some (.cells #[ah 0,.string (⟨#[]⟩:ByteArray),ah 0,.bool false,.slice none 0 0] 49))∧(w'.heap[s_.2]?=some (.cells #[.slice none 0 0] 28))∧(w.heap.size≤s_.2)∧(w.heap.size≤s_.2)∧(af≠s_.2)∧(s_.2≠af)∧(aw≠s_.2)∧(s_.2≠aw)∧(a9≠s_.2)∧(s_.2≠a9)∧(an≠s_.2)∧(s_.2≠an)∧(aa≠s_.2)∧(s_.2≠aa)∧(Below w.heap.size w w')) ?_ ?_;rotate_left
  ·intro wR;refine AL (i:=6) (j:=11) (Ni:=some 116) (yD:=some 15) afC afH rfl rfl rfl rfl (AO aP.out aC) (by decide) (by decide) (fun K hK=>?_) (fun K hK=>?_)
   ·skip
    refine jw func126 aC rfl #[.string ((aB bg a2).f2),ah bi] (by rfl) rfl rfl bJ ?_
    with_reducible refine (D6.calls k ((aB bg a2).f2) bi dr _ i7.out).mono ?_
    rintro e lk ⟨rfl,hb⟩;refine ⟨_,rfl,?_⟩;obtain ⟨a7,a5,a6,dU,dh,HB⟩:=qJ (au a7) (au a5) (au a6) (au dU) (au dh) ay hb;(try clear hb)
    refine hK.out _ _ (kW a7.out ⟨(aQ a5.out 0).trans rfl,jX a6.out⟩) (fun hH=>?_);clear hK K;refine gY (some 116) ?_;refine AL (i:=7) (j:=11) (Ni:=some 117) (yD:=some 15) afD YV rfl rfl rfl rfl (AO aP.out aC) (by decide) (by decide) (fun K hK=>?_) (fun K hK=>?_)
    ·skip
     refine jw func124 aC rfl #[.agg #[ah b8,ah b9,ah ba,ah bb],.agg #[.slice (some aq) bg.length bc],ah a2,.string dr] (by rfl) rfl rfl bJ ?_
     with_reducible refine (yX.calls k b8 b9 ba bb _ _ bg a2 dr d2 dy _ pK d3.out fj.out).mono ?_
     rintro e id ⟨Gn,rfl,ho0,hb⟩;refine ⟨_,rfl,?_⟩;obtain ⟨fG,a7,a5,a6,dU,dh,HB⟩:=p_ (Kd.dR ho0 (bU ay)) <| qJ (au a7) (au a5) (au a6) (au dU) (au dh) ay hb;(try clear hb)
     (try clear ho0)
     refine hK.out _ _ (kW a7.out ⟨(aQ a5.out 0).trans rfl,jX a6.out⟩) (fun hH=>?_);clear hK K;refine gY (some 117) ?_;refine dF 8 109 afE aP ?_;refine dF 9 118 afG aP ?_;refine dF 10 119 afF aP ?_;refine iy (i:=11) (N:=some 15) G9 rfl rfl (lG aP.out aC) (by decide) (fun K hK=>?_);refine zi ?hg (N:=15) ?hd (cs:=#[.slice none 0 0]) (t:=28) ?hr ?_;(case hd=>rfl);(case hg=>rfl);(case hr=>first|(go_simp;done)|(go_simp;rfl));intro ar hg ie hbox hb;obtain ⟨fG,a7,a5,a6,dU,dh,HB,av,dk,dl,b2,ci,bx,cj,ao,ck,cl,bz,cm,aT⟩:=p_ (Kd.bG (aN fG) hb) <| BQ (au a7) (au a5) (au a6) (au dU) (au dh) ay hb hbox hg;clear hb hbox hg;refine hK.out _ _ (kW a7.out ⟨(aQ a5.out 0).trans rfl,jX a6.out⟩) (fun hH=>?_);clear hK K;refine gY (some 15) ?_;exact qN zS (wR (Gn,ar) _ ⟨hH,(aN fG),(au a7),(au a5),(au a6),(au dU),(au dh),(au av),dk.out,dl.out,b2.out,ci.out,bx.out,cj.out,ao.out,ck.out,cl.out,bz.out,cm.out,aT.out,ay⟩)
    ·skip
     refine zi ?hg (N:=15) ?hd (cs:=#[.slice none 0 0]) (t:=28) ?hr ?_;(case hd=>rfl);(case hg=>rfl);(case hr=>first|(go_simp;done)|(go_simp;rfl));intro ar hg id hbox hb;obtain ⟨a7,a5,a6,dU,dh,HB,av,dk,dl,b2,ci,bx,cj,ao,ck,cl,bz,cm,aT⟩:=BQ (au a7) (au a5) (au a6) (au dU) (au dh) ay hb hbox hg;clear hb hbox hg;refine hK.out _ _ (kW a7.out ⟨(aQ a5.out 0).trans rfl,jX a6.out⟩) (fun hH=>?_);clear hK K;refine gY (some 15) ?_;refine iy (i:=7) (N:=some 117) YW rfl rfl (lG aP.out aC) (by decide) (fun K hK=>?_);refine jw func124 aC rfl #[.agg #[ah b8,ah b9,ah ba,ah bb],.agg #[.slice (some aq) bg.length bc],ah a2,.string dr] (by rfl) rfl rfl bJ ?_
     with_reducible refine (yX.calls k b8 b9 ba bb _ _ bg a2 dr d2 dy _ pK d3.out fj.out).mono ?_
     rintro e ie ⟨Gn,rfl,ho0,hb⟩;refine ⟨_,rfl,?_⟩;obtain ⟨fG,a7,a5,a6,dU,dh,av,HB⟩:=p_ (Kd.dR ho0 (bU ay)) <| rO (au a7) (au a5) (au a6) (au dU) (au dh) (au av) ay hb;(try clear hb)
     (try clear ho0)
     refine hK.out _ _ (kW a7.out ⟨(aQ a5.out 0).trans rfl,jX a6.out⟩) (fun hH=>?_);clear hK K;refine gY (some 117) ?_;refine dF 8 109 YX aP ?_;refine dF 9 118 Yk aP ?_;refine dF 10 119 G9 aP ?_;exact qN zS (wR (Gn,ar) _ ⟨hH,(aN fG),(au a7),(au a5),(au a6),(au dU),(au dh),(au av),dk.out,dl.out,b2.out,ci.out,bx.out,cj.out,ao.out,ck.out,cl.out,bz.out,cm.out,aT.out,ay⟩)
   ·skip
    refine zi ?hg (N:=15) ?hd (cs:=#[.slice none 0 0]) (t:=28) ?hr ?_;(case hd=>rfl);(case hg=>rfl);(case hr=>first|(go_simp;done)|(go_simp;rfl));intro ar hg lk hbox hb;obtain ⟨a7,a5,a6,dU,dh,HB,av,dk,dl,b2,ci,bx,cj,ao,ck,cl,bz,cm,aT⟩:=BQ (au a7) (au a5) (au a6) (au dU) (au dh) ay hb hbox hg;clear hb hbox hg;refine hK.out _ _ (kW a7.out ⟨(aQ a5.out 0).trans rfl,jX a6.out⟩) (fun hH=>?_);clear hK K;refine gY (some 15) ?_;refine iy (i:=6) (N:=some 116) YV rfl rfl (lG aP.out aC) (by decide) (fun K hK=>?_);refine jw func126 aC rfl #[.string ((aB bg a2).f2),ah bi] (by rfl) rfl rfl bJ ?_
    with_reducible refine (D6.calls k ((aB bg a2).f2) bi dr _ i7.out).mono ?_
    rintro e id ⟨rfl,hb⟩;refine ⟨_,rfl,?_⟩;obtain ⟨a7,a5,a6,dU,dh,av,HB⟩:=rO (au a7) (au a5) (au a6) (au dU) (au dh) (au av) ay hb;(try clear hb)
    refine hK.out _ _ (kW a7.out ⟨(aQ a5.out 0).trans rfl,jX a6.out⟩) (fun hH=>?_);clear hK K;refine gY (some 116) ?_;refine iy (i:=7) (N:=some 117) YW rfl rfl (lG aP.out aC) (by decide) (fun K hK=>?_);refine jw func124 aC rfl #[.agg #[ah b8,ah b9,ah ba,ah bb],.agg #[.slice (some aq) bg.length bc],ah a2,.string dr] (by rfl) rfl rfl bJ ?_
    with_reducible refine (yX.calls k b8 b9 ba bb _ _ bg a2 dr d2 dy _ pK d3.out fj.out).mono ?_
    rintro e ie ⟨Gn,rfl,ho0,hb⟩;refine ⟨_,rfl,?_⟩;obtain ⟨fG,a7,a5,a6,dU,dh,av,HB⟩:=p_ (Kd.dR ho0 (bU ay)) <| rO (au a7) (au a5) (au a6) (au dU) (au dh) (au av) ay hb;(try clear hb)
    (try clear ho0)
    refine hK.out _ _ (kW a7.out ⟨(aQ a5.out 0).trans rfl,jX a6.out⟩) (fun hH=>?_);clear hK K;refine gY (some 117) ?_;refine dF 8 109 YX aP ?_;refine dF 9 118 Yk aP ?_;refine dF 10 119 G9 aP ?_;exact qN zS (wR (Gn,ar) _ ⟨hH,(aN fG),(au a7),(au a5),(au a6),(au dU),(au dh),(au av),dk.out,dl.out,b2.out,ci.out,bx.out,cj.out,ao.out,ck.out,cl.out,bz.out,cm.out,aT.out,ay⟩)
  rintro ⟨Gn,ar⟩ ch ⟨kD,iR,iL,gJ,iP,jm,jU,jK,jY,kY,kJ,kT,nK,nR,pG,tV,xW,yI,BX,BZ,B_⟩;obtain ⟨fG,a7,a5,a6,dU,dh,av,dk,dl,b2,ci,bx,cj,ao,ck,cl,bz,cm,aT,HB⟩:=bT (⟨iR⟩:aA (Kd.R aS 43 ch w.heap.size (fun _=>True) Gn d2)) <| bT (⟨iL⟩:aA (ch.heap[af]?=some (.cells #[ah b8,ah b9,ah ba,ah bb] 25))) <| bT (⟨gJ⟩:aA (ch.heap[aw]?=some (.cells #[.slice (some aq) bg.length bc] 28))) <| bT (⟨iP⟩:aA (ch.heap[a9]?=some (.cells #[ah cq,.string cr,.string ct,ah bh,ah bi,.string cc] 45))) <| bT (⟨jm⟩:aA (ch.heap[an]?=some (.cells #[.slice none 0 0] 28))) <| bT (⟨jU⟩:aA (ch.heap[aa]?=some (.cells #[ah 0,.string (⟨#[]⟩:ByteArray),ah 0,.bool false,.slice none 0 0] 49))) <| bT (⟨jK⟩:aA (ch.heap[ar]?=some (.cells #[.slice none 0 0] 28))) <| bT (⟨jY⟩:aA (w.heap.size≤ar)) <| bT (⟨kY⟩:aA (w.heap.size≤ar)) <| bT (⟨kJ⟩:aA (af≠ar)) <| bT (⟨kT⟩:aA (ar≠af)) <| bT (⟨nK⟩:aA (aw≠ar)) <| bT (⟨nR⟩:aA (ar≠aw)) <| bT (⟨pG⟩:aA (a9≠ar)) <| bT (⟨tV⟩:aA (ar≠a9)) <| bT (⟨xW⟩:aA (an≠ar)) <| bT (⟨yI⟩:aA (ar≠an)) <| bT (⟨BX⟩:aA (aa≠ar)) <| bT (⟨BZ⟩:aA (ar≠aa)) <| (⟨B_⟩:aA (Below w.heap.size w ch));have hH:qw ch af (ah b8) (ah b9) (ah ba) (ah bb) <| jE ch aw (.slice (some aq) bg.length bc) <| oZ ch a9 (ah cq) (.string cr) (.string ct) (ah bh) (ah bi) (.string cc):=kD;obtain ⟨d0,d1,ex⟩:=Kd.dN fG.out;(first|subst ex|(injection ex with eu iE eF;have iJ:=eu.symm;have iK:=eF.symm;clear eu iE eF;subst iJ;subst iK))
  refine qN (a':=?_) ?_ ?_;rotate_left
  ·simp only [lK,Act.put,List.setIfInBounds_toArray,List.set_cons_zero,List.set_cons_succ]
   rfl
  refine iy (i:=12) (N:=none) RY rfl rfl (lG aP.out aC) (by decide) (fun K hK=>?_);have aBb:ch.cell? ⟨ar,0,none⟩=some (.slice none 0 0):=(aQ av.out 0).trans rfl;have avg:=cZ av.out 0;obtain ⟨Ah,ii,ij,ik,il,im,io,ip⟩:=iq b2 bx ao cl cm ci cj ck;obtain ⟨FB,ir⟩:=gy bz aT;refine jD (w1:=?_) (by rfl) rfl ?_ ?_;rotate_left
  ·go_simp
   rfl
  refine hK.out _ _ ⟨(aG b2 hH.1),(aG b2 hH.2.1),(aG b2 hH.2.2.1),(aG b2 hH.2.2.2.1),(aG bx hH.2.2.2.2.1),(aG ao hH.2.2.2.2.2.1),(aG ao hH.2.2.2.2.2.2.1),(aG ao hH.2.2.2.2.2.2.2.1),(aG ao hH.2.2.2.2.2.2.2.2.1),(aG ao hH.2.2.2.2.2.2.2.2.2.1),(aG ao hH.2.2.2.2.2.2.2.2.2.2)⟩ (fun hH=>?_);clear hK K;refine dF 13 16 RZ aP ?_;refine jd (kC aP.out aC) ?_;try go_wp2
  have dH:aA (Kd.R aS 43 (ch.setCell ⟨ar,0,none⟩ (.slice d0 d2.length d1)) w.heap.size (fun _=>True) (.slice d0 d2.length d1) d2):=⟨(by (with_reducible repeat (first|apply Kd.bW|apply Kd.bY|apply Kd.bH));exact Kd.bF (aJ (Kd.bV fG.out av.out (by decide))) (fun _ hk=>trivial))⟩;have ng:aA ((ch.setCell ⟨ar,0,none⟩ (.slice d0 d2.length d1)).heap[af]?=some (.cells #[ah b8,ah b9,ah ba,ah bb] 25)):=⟨bf⟩;have ni:aA ((ch.setCell ⟨ar,0,none⟩ (.slice d0 d2.length d1)).heap[aw]?=some (.cells #[.slice (some aq) bg.length bc] 28)):=⟨bf⟩;have ny:aA ((ch.setCell ⟨ar,0,none⟩ (.slice d0 d2.length d1)).heap[a9]?=some (.cells #[ah cq,.string cr,.string ct,ah bh,ah bi,.string cc] 45)):=⟨bf⟩;have nC:aA ((ch.setCell ⟨ar,0,none⟩ (.slice d0 d2.length d1)).heap[an]?=some (.cells #[.slice none 0 0] 28)):=⟨bf⟩;have nD:aA ((ch.setCell ⟨ar,0,none⟩ (.slice d0 d2.length d1)).heap[aa]?=some (.cells #[ah 0,.string (⟨#[]⟩:ByteArray),ah 0,.bool false,.slice none 0 0] 49)):=⟨bf⟩;have pX:aA ((ch.setCell ⟨ar,0,none⟩ (.slice d0 d2.length d1)).heap[ar]?=some (.cells #[.slice d0 d2.length d1] 28)):=⟨bf⟩;have tC:aA (Below w.heap.size w (ch.setCell ⟨ar,0,none⟩ (.slice d0 d2.length d1))):=⟨ay⟩;(try clear fG)
  (try clear a7)
  (try clear a5)
  (try clear a6)
  (try clear dU)
  (try clear dh)
  (try clear av)
  (try clear HB)
  generalize (ch.setCell ⟨ar,0,none⟩ (.slice d0 d2.length d1))=ll at dH ng ni ny nC nD pX tC ⊢;have fG:=dH;have a7:=ng;have a5:=ni;have a6:=ny;have dU:=nC;have dh:=nD;have av:=pX;have HB:=tC;clear dH ng ni ny nC nD pX tC;obtain ⟨fG,a7,a5,a6,dU,dh,av,HB⟩:=p_ (Kd.bH fG.out) <| xR a7 a5 a6 dU dh av HB;refine iU (n:=5) (S:=fun w'=>w'.cell? ⟨ar,0,none⟩=some (.slice d0 d2.length d1)) (ds:=[]) EL aC rfl rfl ((aQ av.out 0).trans rfl) (fun hH=>?_);generalize ll.drew=MG at fG a7 a5 a6 dU dh av HB hH ⊢;refine uF (i:=1) (N:=some 121) Og aC ?_;refine qX (i:=0) (N:=some 120) (v:=?_) (a':=?_) KT rfl rfl aC (fun _ _ _ h=>h) (Or.inl ⟨(by rfl),?_⟩) hH ?_ ?_;rotate_left
  ·intro w' s0;go_simp
   with_reducible rfl
  rotate_left
  ·simp only [fM,aV,aZ]
   rfl
  refine iy (i:=2) (N:=some 122) He rfl rfl aC (by decide) (fun K hK=>?_);refine jw func75 aC rfl #[ah dy] (by rfl) rfl rfl bJ ?_
  with_reducible refine (oq.calls dy i8 i9 ia ib ic _ lj.out).mono ?_
  rintro e e3 ⟨aDF,rfl,ho0,hb⟩;refine ⟨_,rfl,?_⟩;obtain ⟨fG,ey,a7,a5,a6,dU,dh,av,HB⟩:=p_ (Kd.bG (aN fG) hb) <| p_ (Kd.dR ho0 (bU ay)) <| rO (au a7) (au a5) (au a6) (au dU) (au dh) (au av) ay hb;(try clear hb)
  (try clear ho0)
  obtain ⟨iu,iv,ez⟩:=Kd.dN ey.out;(first|subst ez|(injection ez with eu iE eF;have iJ:=eu.symm;have iK:=eF.symm;clear eu iE eF;subst iJ;subst iK))
  refine hK.out _ _ ((aQ av.out 0).trans rfl) (fun hH=>?_);clear hK K;refine gY (some 122) ?_;refine iy (i:=3) (N:=none) EM rfl rfl aC (by decide) (fun K hK=>?_);have aBd:e3.cell? ⟨an,0,none⟩=some (.slice none 0 0):=(aQ dU.out 0).trans rfl;have avh:=cZ dU.out 0;obtain ⟨cv,cd,aH,cx,fE,ce,aO,cw⟩:=iq bq az ab bw br bd aK bv;refine jD (w1:=?_) (by rfl) rfl ?_ ?_;rotate_left
  ·go_simp
   rfl
  refine hK.out _ _ ((aG bz hH)) (fun hH=>?_);clear hK K;refine iy (i:=4) (N:=none) EN rfl rfl aC (by decide) (fun K hK=>?_);have alD:e3.cell? ⟨aa,0,none⟩=some (ah 0):=(aQ dh.out 0).trans rfl;have ai7:=cZ dh.out 0;obtain ⟨cz,cf,al,cy,cg,am⟩:=lU bs ac a8 bu be ai;have alE:e3.cell? ⟨aa,1,none⟩=some (.string (⟨#[]⟩:ByteArray)):=(aQ dh.out 1).trans rfl;have ai8:=cZ dh.out 1;have alF:e3.cell? ⟨aa,2,none⟩=some (ah 0):=(aQ dh.out 2).trans rfl;have ai9:=cZ dh.out 2;have alG:e3.cell? ⟨aa,3,none⟩=some (.bool false):=(aQ dh.out 3).trans rfl;have ai_:=cZ dh.out 3;have aBg:e3.cell? ⟨aa,4,none⟩=some (.slice none 0 0):=(aQ dh.out 4).trans rfl;have avk:=cZ dh.out 4;refine jD (w1:=?_) (by rfl) rfl ?_ ?_;rotate_left
  ·go_simp
   rfl
  refine hK.out _ _ ((aG aT (aG aT (aG aT (aG aT (aG aT hH)))))) (fun hH=>?_);clear hK K;refine jd aC ?_;try go_wp2
  refine bodyPost_ret (jq rfl _ _ an aa 28 49 #[.slice d0 d2.length d1] #[ah i8,.string i9,ah ia,.bool ib,.slice iu ic.length iv] (0,0) (0,0) _ _ rfl bf underlying28 rfl aC rfl bf underlying49 rfl aC) rfl ?_;exact ⟨_,_,bK,(by (with_reducible repeat (first|apply Kd.bW|apply Kd.bY|apply Kd.bH));exact Kd.bF (aJ (aJ (aJ (aJ (aJ (aJ (Kd.bV (Kd.bV fG.out dU.out (by decide)) dh.out (by decide)) (fun _ hk=>hk.1.2))))))) (fun _ hk=>trivial)),(by (with_reducible repeat (first|apply Kd.bW|apply Kd.bY|apply Kd.bH));exact Kd.bF (aJ (aJ (aJ (aJ (aJ (aJ (Kd.bV (Kd.bV ey.out dU.out (by decide)) dh.out (by decide)) (fun _ hk=>hk.1.2))))))) (fun _ hk=>trivial)),ay⟩
 have et:=fU es;have tN:=fV es;clear es;have fk:=m_ H;clear H;go_upto_region 12 with (fail)
 go_cut [75] (fun v75 wc=>∃ (kq:Nat) (dt:Bool),v75=.bool dt∧aA (kV.j1 kq a2 ((aB bg a2).f2) dt b8 b9 ba bb bg cq cr ct bh bi cc=some (r1,r2,r3,r4,r5,r6))∧aA (kq≤k)∧aA (wc.heap[af]?=some (.cells #[ah b8,ah b9,ah ba,ah bb] 25))∧aA (wc.heap[aw]?=some (.cells #[(.slice (some aq) bg.length bc)] 28))∧aA (wc.heap[a9]?=some (.cells #[ah cq,.string cr,.string ct,ah bh,ah bi,.string cc] 45))∧aA (wc.heap[an]?=some (.cells #[(.slice none 0 0)] 28))∧aA (wc.heap[aa]?=some (.cells #[ah 0,.string (⟨#[]⟩:ByteArray),ah 0,.bool false,(.slice none 0 0)] 49))∧aA (Below w.heap.size w wc))
 case first =>
  obtain ⟨H⟩:=fk;revert H;refine fB (fun dm H=>?_) fun dm H=>?_
  ·try simp only [aV,aZ,dm]
   have H':=m_ H;clear H;obtain ⟨bl,bm,b1,b0,aH,aO,al,am⟩:=iq bp bo bD ax ab aK a8 ai;have f3:=mg a6.out;go_wp2
   go_meet
   case rel=>exact ⟨_,(true),bC,H',⟨lM⟩,⟨(au a7)⟩,⟨(au a5)⟩,⟨(au a6)⟩,⟨(au dU)⟩,⟨(au dh)⟩,⟨ay⟩⟩
  try simp only [aV,aZ,dm]
  have H':=m_ H;clear H;obtain ⟨bl,bm,b1,b0,aH,aO,al,am⟩:=iq bp bo bD ax ab aK a8 ai;have f4:=mg a6.out;go_wp2
  go_meet
  case rel=>exact ⟨_,(decide (bh > (wrap64 (128 - (cc.size:Int))))),bC,H',⟨lM⟩,⟨(au a7)⟩,⟨(au a5)⟩,⟨(au a6)⟩,⟨(au dU)⟩,⟨(au dh)⟩,⟨ay⟩⟩
 case rest =>
 clear fk;try clear c5;try clear c6;try clear ej;try clear db;try clear e9;try clear es;try clear et;try clear tN;try clear e6;try clear e7
 obtain ⟨kq,dt,rfl,HA,ap9,a7,a5,a6,dU,dh,HB⟩:=hcut;cases kq with
 | zero=>exact absurd HA.out (by simp [kV.j1])
 | succ Me =>
 obtain ⟨H⟩:=HA;simp only [kV.j1] at H
 by_cases em:dt=true
 ·subst em;rw [if_pos rfl] at H;obtain ⟨DK,lm,H⟩:=bd_ H;obtain ⟨⟨ix,tq,iz,j5,j9⟩,ln,H⟩:=bd_ H;simp only [gV] at H
  obtain ⟨rfl,rfl,rfl,rfl,rfl,rfl⟩:=H;obtain ⟨d6,d7,b0,b1,cd,ce,cf,cg⟩:=iq d5 d4 ax bD az bd ac be;have aEb:=bZ a5.out;go_wp2_with (first|((with_reducible refine cu 73 ?_);refine cO (some 77) rfl rfl func73 aC rfl #[.agg #[.slice (some aq) bg.length bc]] rfl bJ ?_;(with_reducible refine (rY.calls _ _ bg DK _ pK d3.out lm.out).mono ?_);rintro e mm ⟨aDC,rfl,ho0,hb⟩;refine ⟨_,rfl,?_⟩;obtain ⟨dz,a7,a5,a6,dU,dh,HB⟩:=p_ (Kd.dR ho0 (bU ay)) <| qJ (au a7) (au a5) (au a6) (au dU) (au dh) ay hb;(try clear hb);(try clear ho0))|((with_reducible refine cu 75 ?_);refine cO (some 78) rfl rfl func75 aC rfl #[ah 12] rfl bJ ?_;(with_reducible refine (oq.calls 12 ix tq iz j5 j9 _ ln.out).mono ?_);rintro e mo ⟨aDD,rfl,ho0,hb⟩;refine ⟨_,rfl,?_⟩;obtain ⟨dz,f7,a7,a5,a6,dU,dh,HB⟩:=p_ (Kd.bG (aN dz) hb) <| p_ (Kd.dR ho0 (bU ay)) <| qJ (au a7) (au a5) (au a6) (au dU) (au dh) ay hb;(try clear hb);(try clear ho0);obtain ⟨ja,jb,FC⟩:=Kd.dN dz.out;subst FC;obtain ⟨fE,cv,aO,aH,cw,cx⟩:=lU br bq aK ab bv bw;have aEd:=bZ dU.out;obtain ⟨cy,cz,am,al⟩:=iD bu bs ai a8;have m6:=jc dh.out;obtain ⟨Bl,Bo,L8⟩:=Kd.dN f7.out;subst L8))
  refine bodyPost_ret (jq rfl _ _ an aa 28 49 #[.slice ja DK.length jb] #[ah ix,.string tq,ah iz,.bool j5,.slice Bl j9.length Bo] (0,0) (0,0) _ _ rfl bf underlying28 rfl aC rfl bf underlying49 rfl aC) rfl ?_;exact ⟨_,_,bK,(by (with_reducible repeat (first|apply Kd.bW|apply Kd.bY|apply Kd.bH));exact Kd.bF (aJ (aJ (aJ (aJ (aJ (aJ (Kd.bV (Kd.bV dz.out dU.out (by decide)) dh.out (by decide)) (fun _ hk=>hk.1.2))))))) (fun _ hk=>trivial)),(by (with_reducible repeat (first|apply Kd.bW|apply Kd.bY|apply Kd.bH));exact Kd.bF (aJ (aJ (aJ (aJ (aJ (aJ (Kd.bV (Kd.bV f7.out dU.out (by decide)) dh.out (by decide)) (fun _ hk=>hk.1.2))))))) (fun _ hk=>trivial)),ay⟩
 replace em:=Bool.eq_false_iff.mpr em;subst em;rw [if_neg iF] at H;obtain ⟨du,Jv,H⟩:=bd_ H;obtain ⟨⟨bj,dv⟩,fm,H⟩:=bd_ H;have f8:=m_ H;clear H;try go_wp2
 obtain ⟨a7,a5,a6,dU,dh,HB⟩:=Ad a7 a5 a6 dU dh HB;refine iU (n:=16) (S:=fun w'=>qw w' af (ah b8) (ah b9) (ah ba) (ah bb) <| jE w' aw (.slice (some aq) bg.length bc) <| oZ w' a9 (ah cq) (.string cr) (.string ct) (ah bh) (ah bi) (.string cc)) (ds:=[]) RN aC rfl rfl (kW a7.out ⟨(aQ a5.out 0).trans rfl,jX a6.out⟩) (fun hH=>?_);refine kF (T:=kV.aff) (B:=kV.aeh) aC aC (fun aP fK=>?_);generalize wc.drew=mq at a7 a5 a6 dU dh HB hH ⊢;refine dF 2 82 #[F_,F_,aj,F_,F_,F_,F_,F_,F_,F_,F_,F_,F_,F_,F_,F_] aP ?_;refine dF 3 83 #[F_,F_,aj,aj,F_,F_,F_,F_,F_,F_,F_,F_,F_,F_,F_,F_] aP ?_;refine dF 4 84 #[F_,F_,aj,aj,aj,F_,F_,F_,F_,F_,F_,F_,F_,F_,F_,F_] aP ?_;refine dF 6 86 #[F_,F_,aj,aj,aj,F_,aj,F_,F_,F_,F_,F_,F_,F_,F_,F_] aP ?_;refine j_ 0 80 #[aj,F_,aj,aj,aj,F_,aj,F_,F_,F_,F_,F_,F_,F_,F_,F_] aP fK hH ?_;refine j_ 1 81 #[aj,aj,aj,aj,aj,F_,aj,F_,F_,F_,F_,F_,F_,F_,F_,F_] aP fK hH ?_;refine j_ 5 85 RP aP fK hH ?_;refine j_ 7 87 Yt aP fK hH ?_;refine FH (σ:=Value × Nat) 2 Hf (fun s_=>[(88,.string du),(89,.tuple #[.agg #[s_.1],ah dv]),(13,.pointer (some ⟨s_.2,0,none⟩)),(79,.tuple #[.agg #[s_.1],ah dv]),(90,.agg #[s_.1]),(91,ah dv)]) (fun s_ w'=>(qw w' af (ah b8) (ah b9) (ah ba) (ah bb) <| jE w' aw (.slice (some aq) bg.length bc) <| oZ w' a9 (ah cq) (.string cr) (.string ct) (ah bh) (ah bi) (.string cc))∧(Kd.R aS 43 w' w.heap.size (fun _=>True) s_.1 bj)∧(w'.heap[af]?=some (.cells #[ah b8,ah b9,ah ba,ah bb] 25))∧(w'.heap[aw]?=some (.cells #[.slice (some aq) bg.length bc] 28))∧(w'.heap[a9]?=some (.cells #[ah cq,.string cr,.string ct,ah bh,ah bi,.string cc] 45))∧(w'.heap[an]?=some (.cells #[.slice none 0 0] 28))∧(w'.heap[aa]?=some (.cells #[ah 0,.string (⟨#[]⟩:ByteArray),ah 0,.bool false,.slice none 0 0] 49))∧(w'.heap[s_.2]?=some (.cells #[.slice none 0 0] 28))∧(w.heap.size≤s_.2)∧(w.heap.size≤s_.2)∧(af≠s_.2)∧(s_.2≠af)∧(aw≠s_.2)∧(s_.2≠aw)∧(a9≠s_.2)∧(s_.2≠a9)∧(an≠s_.2)∧(s_.2≠an)∧(aa≠s_.2)∧(s_.2≠aa)∧(Below w.heap.size w w')) ?_ ?_;rotate_left
 ·intro wR;refine AL (i:=8) (j:=13) (Ni:=some 88) (yD:=some 13) Yu #[aj,aj,aj,aj,aj,aj,aj,aj,F_,F_,F_,F_,F_,aj,F_,F_] rfl rfl rfl rfl (AO aP.out aC) (by decide) (by decide) (fun K hK=>?_) (fun K hK=>?_)
  ·skip
   refine jw func125 aC rfl #[.string ((aB bg a2).f2),ah bh,.string cc] (by rfl) rfl rfl bJ ?_
   with_reducible refine (vw.calls Me ((aB bg a2).f2) bh cc du _ Jv.out).mono ?_
   rintro e lo ⟨rfl,hb⟩;refine ⟨_,rfl,?_⟩;obtain ⟨a7,a5,a6,dU,dh,HB⟩:=qJ (au a7) (au a5) (au a6) (au dU) (au dh) ay hb;(try clear hb)
   refine hK.out _ _ (kW a7.out ⟨(aQ a5.out 0).trans rfl,jX a6.out⟩) (fun hH=>?_);clear hK K;refine gY (some 88) ?_;refine AL (i:=9) (j:=13) (Ni:=some 89) (yD:=some 13) Yv YL rfl rfl rfl rfl (AO aP.out aC) (by decide) (by decide) (fun K hK=>?_) (fun K hK=>?_)
   ·skip
    refine jw func124 aC rfl #[.agg #[ah b8,ah b9,ah ba,ah bb],.agg #[.slice (some aq) bg.length bc],ah a2,.string du] (by rfl) rfl rfl bJ ?_
    with_reducible refine (yX.calls Me b8 b9 ba bb _ _ bg a2 du bj dv _ pK d3.out fm.out).mono ?_
    rintro e Ci ⟨Gm,rfl,ho0,hb⟩;refine ⟨_,rfl,?_⟩;obtain ⟨sG,a7,a5,a6,dU,dh,HB⟩:=p_ (Kd.dR ho0 (bU ay)) <| qJ (au a7) (au a5) (au a6) (au dU) (au dh) ay hb;(try clear hb)
    (try clear ho0)
    refine hK.out _ _ (kW a7.out ⟨(aQ a5.out 0).trans rfl,jX a6.out⟩) (fun hH=>?_);clear hK K;refine gY (some 89) ?_;refine dF 10 79 Yw aP ?_;refine dF 11 90 Yx aP ?_;refine dF 12 91 RQ aP ?_;refine iy (i:=13) (N:=some 13) Hf rfl rfl (lG aP.out aC) (by decide) (fun K hK=>?_);refine zi ?hg (N:=13) ?hd (cs:=#[.slice none 0 0]) (t:=28) ?hr ?_;(case hd=>rfl);(case hg=>rfl);(case hr=>first|(go_simp;done)|(go_simp;rfl));intro ag hg Cj hbox hb;obtain ⟨sG,a7,a5,a6,dU,dh,HB,qc,lJ,dp,b3,cn,ca,co,ap,cp,fA,b4,dL,ae⟩:=p_ (Kd.bG (aN sG) hb) <| BQ (au a7) (au a5) (au a6) (au dU) (au dh) ay hb hbox hg;clear hb hbox hg;refine hK.out _ _ (kW a7.out ⟨(aQ a5.out 0).trans rfl,jX a6.out⟩) (fun hH=>?_);clear hK K;refine gY (some 13) ?_;exact qN zS (wR (Gm,ag) _ ⟨hH,(aN sG),(au a7),(au a5),(au a6),(au dU),(au dh),(au qc),lJ.out,dp.out,b3.out,cn.out,ca.out,co.out,ap.out,cp.out,fA.out,b4.out,dL.out,ae.out,ay⟩)
   ·skip
    refine zi ?hg (N:=13) ?hd (cs:=#[.slice none 0 0]) (t:=28) ?hr ?_;(case hd=>rfl);(case hg=>rfl);(case hr=>first|(go_simp;done)|(go_simp;rfl));intro ag hg Ci hbox hb;obtain ⟨a7,a5,a6,dU,dh,HB,qc,lJ,dp,b3,cn,ca,co,ap,cp,fA,b4,dL,ae⟩:=BQ (au a7) (au a5) (au a6) (au dU) (au dh) ay hb hbox hg;clear hb hbox hg;refine hK.out _ _ (kW a7.out ⟨(aQ a5.out 0).trans rfl,jX a6.out⟩) (fun hH=>?_);clear hK K;refine gY (some 13) ?_;refine iy (i:=9) (N:=some 89) YM rfl rfl (lG aP.out aC) (by decide) (fun K hK=>?_);refine jw func124 aC rfl #[.agg #[ah b8,ah b9,ah ba,ah bb],.agg #[.slice (some aq) bg.length bc],ah a2,.string du] (by rfl) rfl rfl bJ ?_
    with_reducible refine (yX.calls Me b8 b9 ba bb _ _ bg a2 du bj dv _ pK d3.out fm.out).mono ?_
    rintro e Cj ⟨Gm,rfl,ho0,hb⟩;refine ⟨_,rfl,?_⟩;obtain ⟨sG,a7,a5,a6,dU,dh,qc,HB⟩:=p_ (Kd.dR ho0 (bU ay)) <| rO (au a7) (au a5) (au a6) (au dU) (au dh) (au qc) ay hb;(try clear hb)
    (try clear ho0)
    refine hK.out _ _ (kW a7.out ⟨(aQ a5.out 0).trans rfl,jX a6.out⟩) (fun hH=>?_);clear hK K;refine gY (some 89) ?_;refine dF 10 79 YN aP ?_;refine dF 11 90 YO aP ?_;refine dF 12 91 Hf aP ?_;exact qN zS (wR (Gm,ag) _ ⟨hH,(aN sG),(au a7),(au a5),(au a6),(au dU),(au dh),(au qc),lJ.out,dp.out,b3.out,cn.out,ca.out,co.out,ap.out,cp.out,fA.out,b4.out,dL.out,ae.out,ay⟩)
  ·skip
   refine zi ?hg (N:=13) ?hd (cs:=#[.slice none 0 0]) (t:=28) ?hr ?_;(case hd=>rfl);(case hg=>rfl);(case hr=>first|(go_simp;done)|(go_simp;rfl));intro ag hg lo hbox hb;obtain ⟨a7,a5,a6,dU,dh,HB,qc,lJ,dp,b3,cn,ca,co,ap,cp,fA,b4,dL,ae⟩:=BQ (au a7) (au a5) (au a6) (au dU) (au dh) ay hb hbox hg;clear hb hbox hg;refine hK.out _ _ (kW a7.out ⟨(aQ a5.out 0).trans rfl,jX a6.out⟩) (fun hH=>?_);clear hK K;refine gY (some 13) ?_;refine iy (i:=8) (N:=some 88) YL rfl rfl (lG aP.out aC) (by decide) (fun K hK=>?_);refine jw func125 aC rfl #[.string ((aB bg a2).f2),ah bh,.string cc] (by rfl) rfl rfl bJ ?_
   with_reducible refine (vw.calls Me ((aB bg a2).f2) bh cc du _ Jv.out).mono ?_
   rintro e Ci ⟨rfl,hb⟩;refine ⟨_,rfl,?_⟩;obtain ⟨a7,a5,a6,dU,dh,qc,HB⟩:=rO (au a7) (au a5) (au a6) (au dU) (au dh) (au qc) ay hb;(try clear hb)
   refine hK.out _ _ (kW a7.out ⟨(aQ a5.out 0).trans rfl,jX a6.out⟩) (fun hH=>?_);clear hK K;refine gY (some 88) ?_;refine iy (i:=9) (N:=some 89) YM rfl rfl (lG aP.out aC) (by decide) (fun K hK=>?_);refine jw func124 aC rfl #[.agg #[ah b8,ah b9,ah ba,ah bb],.agg #[.slice (some aq) bg.length bc],ah a2,.string du] (by rfl) rfl rfl bJ ?_
   with_reducible refine (yX.calls Me b8 b9 ba bb _ _ bg a2 du bj dv _ pK d3.out fm.out).mono ?_
   rintro e Cj ⟨Gm,rfl,ho0,hb⟩;refine ⟨_,rfl,?_⟩;obtain ⟨sG,a7,a5,a6,dU,dh,qc,HB⟩:=p_ (Kd.dR ho0 (bU ay)) <| rO (au a7) (au a5) (au a6) (au dU) (au dh) (au qc) ay hb;(try clear hb)
   (try clear ho0)
   refine hK.out _ _ (kW a7.out ⟨(aQ a5.out 0).trans rfl,jX a6.out⟩) (fun hH=>?_);clear hK K;refine gY (some 89) ?_;refine dF 10 79 YN aP ?_;refine dF 11 90 YO aP ?_;refine dF 12 91 Hf aP ?_;exact qN zS (wR (Gm,ag) _ ⟨hH,(aN sG),(au a7),(au a5),(au a6),(au dU),(au dh),(au qc),lJ.out,dp.out,b3.out,cn.out,ca.out,co.out,ap.out,cp.out,fA.out,b4.out,dL.out,ae.out,ay⟩)
 rintro ⟨Gm,ag⟩ b7 ⟨kD,iR,iL,gJ,iP,jm,jU,jK,jY,kY,kJ,kT,nK,nR,pG,tV,xW,yI,BX,BZ,B_⟩;obtain ⟨sG,a7,a5,a6,dU,dh,qc,lJ,dp,b3,cn,ca,co,ap,cp,fA,b4,dL,ae,HB⟩:=bT (⟨iR⟩:aA (Kd.R aS 43 b7 w.heap.size (fun _=>True) Gm bj)) <| bT (⟨iL⟩:aA (b7.heap[af]?=some (.cells #[ah b8,ah b9,ah ba,ah bb] 25))) <| bT (⟨gJ⟩:aA (b7.heap[aw]?=some (.cells #[.slice (some aq) bg.length bc] 28))) <| bT (⟨iP⟩:aA (b7.heap[a9]?=some (.cells #[ah cq,.string cr,.string ct,ah bh,ah bi,.string cc] 45))) <| bT (⟨jm⟩:aA (b7.heap[an]?=some (.cells #[.slice none 0 0] 28))) <| bT (⟨jU⟩:aA (b7.heap[aa]?=some (.cells #[ah 0,.string (⟨#[]⟩:ByteArray),ah 0,.bool false,.slice none 0 0] 49))) <| bT (⟨jK⟩:aA (b7.heap[ag]?=some (.cells #[.slice none 0 0] 28))) <| bT (⟨jY⟩:aA (w.heap.size≤ag)) <| bT (⟨kY⟩:aA (w.heap.size≤ag)) <| bT (⟨kJ⟩:aA (af≠ag)) <| bT (⟨kT⟩:aA (ag≠af)) <| bT (⟨nK⟩:aA (aw≠ag)) <| bT (⟨nR⟩:aA (ag≠aw)) <| bT (⟨pG⟩:aA (a9≠ag)) <| bT (⟨tV⟩:aA (ag≠a9)) <| bT (⟨xW⟩:aA (an≠ag)) <| bT (⟨yI⟩:aA (ag≠an)) <| bT (⟨BX⟩:aA (aa≠ag)) <| bT (⟨BZ⟩:aA (ag≠aa)) <| (⟨B_⟩:aA (Below w.heap.size w b7));have hH:qw b7 af (ah b8) (ah b9) (ah ba) (ah bb) <| jE b7 aw (.slice (some aq) bg.length bc) <| oZ b7 a9 (ah cq) (.string cr) (.string ct) (ah bh) (ah bi) (.string cc):=kD;obtain ⟨b5,b6,fa⟩:=Kd.dN sG.out;(first|subst fa|(injection fa with eu iE eF;have iJ:=eu.symm;have iK:=eF.symm;clear eu iE eF;subst iJ;subst iK))
 refine qN (a':=?_) ?_ ?_;rotate_left
 ·simp only [lK,Act.put,List.setIfInBounds_toArray,List.set_cons_zero,List.set_cons_succ]
  rfl
 refine iy (i:=14) (N:=none) RS rfl rfl (lG aP.out aC) (by decide) (fun K hK=>?_);have aAW:b7.cell? ⟨ag,0,none⟩=some (.slice none 0 0):=(aQ qc.out 0).trans rfl;have au1:=cZ qc.out 0;obtain ⟨eb,ec,ed,dd,de,ee,ef,eh⟩:=iq b3 ca ap fA dL cn co cp;obtain ⟨df,dg⟩:=gy b4 ae;refine jD (w1:=?_) (by rfl) rfl ?_ ?_;rotate_left
 ·go_simp
  rfl
 refine hK.out _ _ ⟨(aG b3 hH.1),(aG b3 hH.2.1),(aG b3 hH.2.2.1),(aG b3 hH.2.2.2.1),(aG ca hH.2.2.2.2.1),(aG ap hH.2.2.2.2.2.1),(aG ap hH.2.2.2.2.2.2.1),(aG ap hH.2.2.2.2.2.2.2.1),(aG ap hH.2.2.2.2.2.2.2.2.1),(aG ap hH.2.2.2.2.2.2.2.2.2.1),(aG ap hH.2.2.2.2.2.2.2.2.2.2)⟩ (fun hH=>?_);clear hK K;refine dF 15 14 RU aP ?_;refine jd (kC aP.out aC) ?_;go_upto_if 93 with (fail)
 (try clear eb ec ed dd de ee ef eh df dg)
 obtain ⟨H⟩:=f8;revert H;refine eU (fun e0 H=>?_) fun e0 H=>?_;rotate_left
 ·have pF:=fZ e0;have fo:=f_ e0;try simp only [aV,aZ,pF]
  obtain ⟨⟨jj,Cm,zF,zG,jn⟩,lp,H⟩:=bd_ H;simp only [gV] at H
  obtain ⟨rfl,rfl,rfl,rfl,rfl,rfl⟩:=H;try go_wp2
  have dH:aA (Kd.R aS 43 (b7.setCell ⟨ag,0,none⟩ (.slice b5 bj.length b6)) w.heap.size (fun _=>True) (.slice b5 bj.length b6) bj):=⟨adi⟩;have ng:aA ((b7.setCell ⟨ag,0,none⟩ (.slice b5 bj.length b6)).heap[af]?=some (.cells #[ah b8,ah b9,ah ba,ah bb] 25)):=⟨bf⟩;have ni:aA ((b7.setCell ⟨ag,0,none⟩ (.slice b5 bj.length b6)).heap[aw]?=some (.cells #[.slice (some aq) bg.length bc] 28)):=⟨bf⟩;have ny:aA ((b7.setCell ⟨ag,0,none⟩ (.slice b5 bj.length b6)).heap[a9]?=some (.cells #[ah cq,.string cr,.string ct,ah bh,ah bi,.string cc] 45)):=⟨bf⟩;have nC:aA ((b7.setCell ⟨ag,0,none⟩ (.slice b5 bj.length b6)).heap[an]?=some (.cells #[.slice none 0 0] 28)):=⟨bf⟩;have nD:aA ((b7.setCell ⟨ag,0,none⟩ (.slice b5 bj.length b6)).heap[aa]?=some (.cells #[ah 0,.string (⟨#[]⟩:ByteArray),ah 0,.bool false,.slice none 0 0] 49)):=⟨bf⟩;have pX:aA ((b7.setCell ⟨ag,0,none⟩ (.slice b5 bj.length b6)).heap[ag]?=some (.cells #[.slice b5 bj.length b6] 28)):=⟨bf⟩;have tC:aA (Below w.heap.size w (b7.setCell ⟨ag,0,none⟩ (.slice b5 bj.length b6))):=⟨ay⟩;(try clear sG)
  (try clear a7)
  (try clear a5)
  (try clear a6)
  (try clear dU)
  (try clear dh)
  (try clear qc)
  (try clear HB)
  generalize (b7.setCell ⟨ag,0,none⟩ (.slice b5 bj.length b6))=FV at dH ng ni ny nC nD pX tC ⊢;have sG:=dH;have a7:=ng;have a5:=ni;have a6:=ny;have dU:=nC;have dh:=nD;have qc:=pX;have HB:=tC;clear dH ng ni ny nC nD pX tC;obtain ⟨sG,a7,a5,a6,dU,dh,qc,HB⟩:=p_ (Kd.bH sG.out) <| xR a7 a5 a6 dU dh qc HB;refine iU (n:=5) (S:=fun w'=>w'.cell? ⟨ag,0,none⟩=some (.slice b5 bj.length b6)) (ds:=[]) EL aC rfl rfl ((aQ qc.out 0).trans rfl) (fun hH=>?_);generalize FV.drew=mr at sG a7 a5 a6 dU dh qc HB hH ⊢;refine uF (i:=1) (N:=some 95) Og aC ?_;refine qX (i:=0) (N:=some 94) (v:=?_) (a':=?_) KT rfl rfl aC (fun _ _ _ h=>h) (Or.inl ⟨(by rfl),?_⟩) hH ?_ ?_;rotate_left
  ·intro w' s0;go_simp
   with_reducible rfl
  rotate_left
  ·simp only [fM,aV,aZ]
   rfl
  refine iy (i:=2) (N:=some 96) He rfl rfl aC (by decide) (fun K hK=>?_);refine jw func75 aC rfl #[ah dv] (by rfl) rfl rfl bJ ?_
  with_reducible refine (oq.calls dv jj Cm zF zG jn _ lp.out).mono ?_
  rintro e e4 ⟨aDE,rfl,ho0,hb⟩;refine ⟨_,rfl,?_⟩;obtain ⟨sG,fb,a7,a5,a6,dU,dh,qc,HB⟩:=p_ (Kd.bG (aN sG) hb) <| p_ (Kd.dR ho0 (bU ay)) <| rO (au a7) (au a5) (au a6) (au dU) (au dh) (au qc) ay hb;(try clear hb)
  (try clear ho0)
  obtain ⟨FD,jp,fc⟩:=Kd.dN fb.out;(first|subst fc|(injection fc with eu iE eF;have iJ:=eu.symm;have iK:=eF.symm;clear eu iE eF;subst iJ;subst iK))
  refine hK.out _ _ ((aQ qc.out 0).trans rfl) (fun hH=>?_);clear hK K;refine gY (some 96) ?_;refine iy (i:=3) (N:=none) EM rfl rfl aC (by decide) (fun K hK=>?_);have aA4:e4.cell? ⟨an,0,none⟩=some (.slice none 0 0):=(aQ dU.out 0).trans rfl;have au9:=cZ dU.out 0;obtain ⟨cv,cd,aH,cx,df,fE,ce,aO⟩:=iq bq az ab bw b4 br bd aK;obtain ⟨cw,dd⟩:=gy bv fA;refine jD (w1:=?_) (by rfl) rfl ?_ ?_;rotate_left
  ·go_simp
   rfl
  refine hK.out _ _ ((aG b4 hH)) (fun hH=>?_);clear hK K;refine iy (i:=4) (N:=none) EN rfl rfl aC (by decide) (fun K hK=>?_);have aA5:e4.cell? ⟨aa,0,none⟩=some (ah 0):=(aQ dh.out 0).trans rfl;have au_:=cZ dh.out 0;obtain ⟨cz,cf,al,dg,cy,cg,am,de⟩:=iq bs ac a8 ae bu be ai dL;have aA7:e4.cell? ⟨aa,1,none⟩=some (.string (⟨#[]⟩:ByteArray)):=(aQ dh.out 1).trans rfl;have ava:=cZ dh.out 1;have aA8:e4.cell? ⟨aa,2,none⟩=some (ah 0):=(aQ dh.out 2).trans rfl;have avb:=cZ dh.out 2;have aA9:e4.cell? ⟨aa,3,none⟩=some (.bool false):=(aQ dh.out 3).trans rfl;have avc:=cZ dh.out 3;have aA_:e4.cell? ⟨aa,4,none⟩=some (.slice none 0 0):=(aQ dh.out 4).trans rfl;have avd:=cZ dh.out 4;refine jD (w1:=?_) (by rfl) rfl ?_ ?_;rotate_left
  ·go_simp
   rfl
  refine hK.out _ _ ((aG ae (aG ae (aG ae (aG ae (aG ae hH)))))) (fun hH=>?_);clear hK K;refine jd aC ?_;try go_wp2
  refine bodyPost_ret (jq rfl _ _ an aa 28 49 #[.slice b5 bj.length b6] #[ah jj,.string Cm,ah zF,.bool zG,.slice FD jn.length jp] (0,0) (0,0) _ _ rfl bf underlying28 rfl aC rfl bf underlying49 rfl aC) rfl ?_;exact ⟨_,_,bK,ac8,(by (with_reducible repeat (first|apply Kd.bW|apply Kd.bY|apply Kd.bH));exact Kd.bF (aJ (aJ (aJ (aJ (aJ (aJ (Kd.bV (Kd.bV fb.out dU.out (by decide)) dh.out (by decide)) (fun _ hk=>hk.1.2))))))) (fun _ hk=>trivial)),ay⟩
 have pF:=fU e0;have fo:=fV e0;clear e0;try simp only [aV,aZ,pF]
 simp only [gV] at H
 obtain ⟨rfl,rfl,rfl,rfl,rfl,rfl⟩:=H;try go_wp2
 have dH:aA (Kd.R aS 43 (b7.setCell ⟨ag,0,none⟩ (.slice b5 bj.length b6)) w.heap.size (fun _=>True) (.slice b5 bj.length b6) bj):=⟨adi⟩;have ng:aA ((b7.setCell ⟨ag,0,none⟩ (.slice b5 bj.length b6)).heap[af]?=some (.cells #[ah b8,ah b9,ah ba,ah bb] 25)):=⟨bf⟩;have ni:aA ((b7.setCell ⟨ag,0,none⟩ (.slice b5 bj.length b6)).heap[aw]?=some (.cells #[.slice (some aq) bg.length bc] 28)):=⟨bf⟩;have ny:aA ((b7.setCell ⟨ag,0,none⟩ (.slice b5 bj.length b6)).heap[a9]?=some (.cells #[ah cq,.string cr,.string ct,ah bh,ah bi,.string cc] 45)):=⟨bf⟩;have nC:aA ((b7.setCell ⟨ag,0,none⟩ (.slice b5 bj.length b6)).heap[an]?=some (.cells #[.slice none 0 0] 28)):=⟨bf⟩;have nD:aA ((b7.setCell ⟨ag,0,none⟩ (.slice b5 bj.length b6)).heap[aa]?=some (.cells #[ah 0,.string (⟨#[]⟩:ByteArray),ah 0,.bool false,.slice none 0 0] 49)):=⟨bf⟩;have pX:aA ((b7.setCell ⟨ag,0,none⟩ (.slice b5 bj.length b6)).heap[ag]?=some (.cells #[.slice b5 bj.length b6] 28)):=⟨bf⟩;have tC:aA (Below w.heap.size w (b7.setCell ⟨ag,0,none⟩ (.slice b5 bj.length b6))):=⟨ay⟩;(try clear sG)
 (try clear a7)
 (try clear a5)
 (try clear a6)
 (try clear dU)
 (try clear dh)
 (try clear qc)
 (try clear HB)
 generalize (b7.setCell ⟨ag,0,none⟩ (.slice b5 bj.length b6))=lr at dH ng ni ny nC nD pX tC ⊢;have sG:=dH;have a7:=ng;have a5:=ni;have a6:=ny;have dU:=nC;have dh:=nD;have qc:=pX;have HB:=tC;clear dH ng ni ny nC nD pX tC;obtain ⟨sG,a7,a5,a6,dU,dh,qc,HB⟩:=p_ (Kd.bH sG.out) <| xR a7 a5 a6 dU dh qc HB;refine iU (n:=7) (S:=fun w'=>jE w' ag (.slice b5 bj.length b6) <| oZ w' a9 (ah cq) (.string cr) (.string ct) (ah bh) (ah bi) (.string cc)) (ds:=[]) N9 aC rfl rfl ⟨(aQ qc.out 0).trans rfl,jX a6.out⟩ (fun hH=>?_);generalize lr.drew=e5 at sG a7 a5 a6 dU dh qc HB hH ⊢;refine uF (i:=1) (N:=some 98) #[F_,aj,F_,F_,F_,F_,F_] aC ?_;refine qX (i:=0) (N:=some 97) (v:=?_) (a':=?_) #[aj,aj,F_,F_,F_,F_,F_] rfl rfl aC (fun _ _ _ h=>h) (Or.inl ⟨(by rfl),?_⟩) hH ?_ ?_;rotate_left
 ·rintro w' ⟨s0,s1,s2,s3,s4,s5,s6⟩;go_simp
  with_reducible rfl
 rotate_left
 ·simp only [fM,aV,aZ]
  rfl
 refine qX (i:=2) (N:=some 99) (v:=?_) (a':=?_) #[aj,aj,aj,F_,F_,F_,F_] rfl rfl aC (fun _ _ _ h=>h) (Or.inl ⟨(by rfl),?_⟩) hH ?_ ?_;rotate_left
 ·rintro w' ⟨s0,s1,s2,s3,s4,s5,s6⟩;go_simp
  with_reducible rfl
 rotate_left
 ·simp only [fM,aV,aZ]
  rfl
 refine uF (i:=3) (N:=some 100) #[aj,aj,aj,aj,F_,F_,F_] aC ?_;refine uF (i:=4) (N:=some 101) N_ aC ?_;refine iy (i:=5) (N:=none) Oa rfl rfl aC (by decide) (fun K hK=>?_);have aAX:e5.cell? ⟨an,0,none⟩=some (.slice none 0 0):=(aQ dU.out 0).trans rfl;have au2:=cZ dU.out 0;obtain ⟨cv,cd,aH,cx,df,fE,ce,aO⟩:=iq bq az ab bw b4 br bd aK;obtain ⟨cw,dd⟩:=gy bv fA;refine jD (w1:=?_) (by rfl) rfl ?_ ?_;rotate_left
 ·go_simp
  rfl
 refine hK.out _ _ ⟨(aG b4 hH.1),(aG ab hH.2.1),(aG ab hH.2.2.1),(aG ab hH.2.2.2.1),(aG ab hH.2.2.2.2.1),(aG ab hH.2.2.2.2.2.1),(aG ab hH.2.2.2.2.2.2)⟩ (fun hH=>?_);clear hK K;refine iy (i:=6) (N:=none) Ob rfl rfl aC (by decide) (fun K hK=>?_);have aAY:e5.cell? ⟨aa,0,none⟩=some (ah 0):=(aQ dh.out 0).trans rfl;have au3:=cZ dh.out 0;obtain ⟨cz,cf,al,dg,cy,cg,am,de⟩:=iq bs ac a8 ae bu be ai dL;have aA0:e5.cell? ⟨aa,1,none⟩=some (.string (⟨#[]⟩:ByteArray)):=(aQ dh.out 1).trans rfl;have au5:=cZ dh.out 1;have aA1:e5.cell? ⟨aa,2,none⟩=some (ah 0):=(aQ dh.out 2).trans rfl;have au6:=cZ dh.out 2;have aA2:e5.cell? ⟨aa,3,none⟩=some (.bool false):=(aQ dh.out 3).trans rfl;have au7:=cZ dh.out 3;have aA3:e5.cell? ⟨aa,4,none⟩=some (.slice none 0 0):=(aQ dh.out 4).trans rfl;have au8:=cZ dh.out 4;refine jD (w1:=?_) (by rfl) rfl ?_ ?_;rotate_left
 ·go_simp
  rfl
 refine hK.out _ _ ⟨(aG ae (aG ae (aG ae (aG ae (aG ae hH.1))))),(aG a8 (aG a8 (aG a8 (aG a8 (aG a8 hH.2.1))))),(aG a8 (aG a8 (aG a8 (aG a8 (aG a8 hH.2.2.1))))),(aG a8 (aG a8 (aG a8 (aG a8 (aG a8 hH.2.2.2.1))))),(aG a8 (aG a8 (aG a8 (aG a8 (aG a8 hH.2.2.2.2.1))))),(aG a8 (aG a8 (aG a8 (aG a8 (aG a8 hH.2.2.2.2.2.1))))),(aG a8 (aG a8 (aG a8 (aG a8 (aG a8 hH.2.2.2.2.2.2)))))⟩ (fun hH=>?_);clear hK K;refine jd aC ?_;try go_wp2
 refine bodyPost_ret (jq rfl _ _ an aa 28 49 #[.slice b5 bj.length b6] #[ah 0,.string (⟨#[]⟩:ByteArray),ah (cc.size:Int),.bool false,.slice none 0 0] (0,0) (0,0) _ _ rfl bf underlying28 rfl aC rfl bf underlying49 rfl aC) rfl ?_;exact ⟨_,_,bK,ac8,lH,ay⟩

end Go.Proofs.YthejdhjpbpamoaaGreatDoor.pU
