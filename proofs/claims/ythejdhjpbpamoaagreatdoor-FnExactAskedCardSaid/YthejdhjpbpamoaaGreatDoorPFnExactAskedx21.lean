/- Calls return what the Lean functions beside them compute. Conditions: each theorem's own. -/
import Derived.Test.YthejdhjpbpamoaaGreatDoorPkFnExactAsked
import Derived.Test.YthejdhjpbpamoaaGreatDoorPFnExactAskedx2
import Derived.Test.YthejdhjpbpamoaaGreatDoorPFnExactAskedx18
namespace Go.Proofs.YthejdhjpbpamoaaGreatDoor.pU
open Go.RowKit Go.Proofs.YthejdhjpbpamoaaGreatDoorW.jk Go.Proofs.YthejdhjpbpamoaaGreatDoorW.qI Go.Proofs.YthejdhjpbpamoaaGreatDoorW.vV Go.Proofs.Tryz
attribute [local go_sem] yN yR yQ yU yP yT yO yS
set_option linter.unusedVariables false
set_option maxHeartbeats 8000000
set_option maxRecDepth 100000
set_option linter.unusedSimpArgs false

mutual
def rX.j0:Nat→Int→Bool→List (aF)→Int→ByteArray→ByteArray→Int→Int→ByteArray→Option ((List (aF)) × Int × ByteArray × Int × Bool × List ByteArray)
 | 0,_,_,_,_,_,_,_,_,_=>none
 | k+1,gZ,ac,a5,a6,a7,a8,a9,aa,ab=>if ac=true then (rX.j1 k 8 a5 a6 a7 a8 a9 aa ab) else (rX.j1 k gZ a5 a6 a7 a8 a9 aa ab)
def rX.j1:Nat→Int→List (aF)→Int→ByteArray→ByteArray→Int→Int→ByteArray→Option ((List (aF)) × Int × ByteArray × Int × Bool × List ByteArray)
 | 0,_,_,_,_,_,_,_,_=>none
 | k+1,gZ,a6,a7,a8,a9,aa,ab,ac=>if gZ=0 then ((jr.f k a6 a8 (a7 == 2) (⟨#[]⟩:ByteArray)).bind fun ae=>(some (ae,0,(⟨#[]⟩:ByteArray),0,false,([]:List ByteArray)))) else ((rY.f a6).bind fun af=>((oq.f gZ).bind fun a5=>(some (af,a5.1,a5.2.1,a5.2.2.1,a5.2.2.2.1,a5.2.2.2.2))))
end
def rX.f (k:Nat) (af:Int) (ag:Int) (ae:Int) (aK:Int) (a5:List (aF)) (a8:Int) (a6:ByteArray) (a9:ByteArray) (aa:Int) (ab:Int) (ac:ByteArray):Option ((List (aF)) × Int × ByteArray × Int × Bool × List ByteArray):=(CX.f k a5 a6).bind fun a7=>(if a7=0 then (rX.j0 k a7 (decide ((wrap64 ((a5.length:Int)+1)) ≥ ae)) a5 a8 a6 a9 aa ab ac) else (rX.j0 k a7 false a5 a8 a6 a9 aa ab ac))
theorem rX.calls (k:Nat) (dL:Int) (bh:Int) (bb:Int) (bi:Int) (ax:Option Addr) (bD:Nat) (bg:List (aF)) (aw:Int) (al:ByteArray) (b4:ByteArray) (b5:Int) (b6:Int) (b7:ByteArray) (r1:List (aF)) (r2:Int) (r3:ByteArray) (r4:Int) (r5:Bool) (r6:List ByteArray) (w:World) (cd:Kd.C aS w ax bg.length bg) (ce:bg.length≤bD) (h:rX.f k dL bh bb bi bg aw al b4 b5 b6 b7=some (r1,r2,r3,r4,r5,r6)) :
  Calls Tryz.prog 76 #[.agg #[ah dL,ah bh,ah bb,ah bi],.agg #[.slice ax bg.length bD],.agg #[ah aw,.string al,.string b4,ah b5,ah b6,.string b7]] w fun e w'=>∃ fC nG:Value,e=.returned (.tuple #[.agg #[fC],.agg #[ah r2,.string r3,ah r4,.bool r5,nG]])∧Kd.R aS 43 w' w.heap.size (fun _=>True) fC r1∧Kd.R Kd.string 9 w' w.heap.size (fun _=>True) nG r6∧Below w.heap.size w w':=by
 have LV:=underlying25;have nT:=underlying28;have Fb:=underlying45;have wE:=underlying49;have tX:=underlying43;have xK:=m_ cd;have bj:=m_ ce;clear cd ce;have HB:=m_ (Below.refl w.heap.size w);unfold rX.f at h
 have H:=h;clear h;obtain ⟨bx,A4,H⟩:=bd_ H;have d3:=m_ H;clear H;go_enter func76,ntmps76
 go_upto_region 2 with (first|((with_reducible refine dJ 3 ?_);(try (refine r_ (by rfl) ?_;dsimp only));refine dO 3 (cs:=#[ah dL,ah bh,ah bb,ah bi]) 25 ?_;intro cf hg w6 hbox hb;obtain ⟨HB,a6,de,df⟩:=jR ay hb hbox hg;clear hb hbox hg)|((with_reducible refine dJ 4 ?_);(try (refine r_ (by rfl) ?_;dsimp only));refine dO 4 (cs:=#[.slice ax bg.length bD]) 28 ?_;intro cg hg w7 hbox hb;obtain ⟨a6,HB,a5,dg,pF,aa,ab⟩:=oO (au a6) ay hb hbox hg;clear hb hbox hg)|((with_reducible refine dJ 5 ?_);(try (refine r_ (by rfl) ?_;dsimp only));refine dO 5 (cs:=#[ah aw,.string al,.string b4,ah b5,ah b6,.string b7]) 45 ?_;intro ch hg w8 hbox hb;obtain ⟨a6,a5,HB,a8,di,dj,ac,ae,bc,bd⟩:=rP (au a6) (au a5) ay hb hbox hg;clear hb hbox hg)|((with_reducible refine dJ 6 ?_);(try (refine r_ (by rfl) ?_;dsimp only));refine dO 6 (cs:=#[.slice none 0 0]) 28 ?_;intro b8 hg w9 hbox hb;obtain ⟨a6,a5,a8,HB,a7,dk,dl,af,ag,be,fA,aK,ai⟩:=zl (au a6) (au a5) (au a8) ay hb hbox hg;clear hb hbox hg)|((with_reducible refine dJ 7 ?_);(try (refine r_ (by rfl) ?_;dsimp only));refine dO 7 (cs:=#[ah 0,.string (⟨#[]⟩:ByteArray),ah 0,.bool false,.slice none 0 0]) 49 ?_;intro b9 hg en hbox hb;obtain ⟨a6,a5,a8,a7,HB,a9,dm,lJ,aH,aO,an,ao,ap,aq,ar,aT⟩:=Ho (au a6) (au a5) (au a8) (au a7) ay hb hbox hg;clear hb hbox hg;obtain ⟨dp,dq,cm,cn,co,cp,cq,cr⟩:=iq ab aa bc bd be fA an ao;have QH:=bZ a5.out;obtain ⟨dr,dt,du,dv,bl,bm⟩:=lU ae ac aK ai ap aq;have bz:=mg a8.out)|((with_reducible refine cu 14 ?_);refine cO (some 12) rfl rfl func14 aC rfl #[.agg #[.slice ax bg.length bD],.string al] rfl bJ ?_;(with_reducible refine (CX.calls k _ _ bg al bx _ pK bj.out A4.out).mono ?_);rintro e eo ⟨rfl,hb⟩;refine ⟨_,rfl,?_⟩;obtain ⟨a6,a5,a8,a7,a9,HB⟩:=qJ (au a6) (au a5) (au a8) (au a7) (au a9) ay hb;(try clear hb)))
 (try simp only [fM])
 go_cut [23] (fun v23 wc=>∃ (kq:Nat) (ba:Bool),v23=.bool ba∧aA (rX.j0 kq bx ba bg aw al b4 b5 b6 b7=some (r1,r2,r3,r4,r5,r6))∧aA (kq≤k)∧aA (wc.heap[cf]?=some (.cells #[ah dL,ah bh,ah bb,ah bi] 25))∧aA (wc.heap[cg]?=some (.cells #[(.slice ax bg.length bD)] 28))∧aA (wc.heap[ch]?=some (.cells #[ah aw,.string al,.string b4,ah b5,ah b6,.string b7] 45))∧aA (wc.heap[b8]?=some (.cells #[(.slice none 0 0)] 28))∧aA (wc.heap[b9]?=some (.cells #[ah 0,.string (⟨#[]⟩:ByteArray),ah 0,.bool false,(.slice none 0 0)] 49))∧aA (Below w.heap.size w wc))
 case first =>
  obtain ⟨H⟩:=d3;revert H;refine eU (fun ca H=>?_) fun ca H=>?_;rotate_left
  ·have am:=fZ ca;have fG:=f_ ca;try simp only [aV,aZ,am]
   have H':=m_ H;clear H;go_wp2
   go_meet
   case rel=>exact ⟨_,(false),bC,H',⟨lM⟩,⟨(au a6)⟩,⟨(au a5)⟩,⟨(au a8)⟩,⟨(au a7)⟩,⟨(au a9)⟩,⟨ay⟩⟩
  have am:=fU ca;have fG:=fV ca;clear ca;try simp only [aV,aZ,am]
  have H':=m_ H;clear H;obtain ⟨az,b0,lC,dx⟩:=iD ab aa an ao;have aEu:=bZ a5.out;obtain ⟨bo,bp,b1,b2,dy,dz⟩:=lU ac ae af ag aH aO;have cc:=EI a6.out;go_wp2
  go_meet
  case rel=>exact ⟨_,(decide ((wrap64 ((bg.length:Int)+1)) ≥ bb)),bC,H',⟨lM⟩,⟨(au a6)⟩,⟨(au a5)⟩,⟨(au a8)⟩,⟨(au a7)⟩,⟨(au a9)⟩,⟨ay⟩⟩
 case rest =>
 clear d3;try clear QH;try clear bz;try clear QH
 obtain ⟨kq,ba,rfl,HA,Kv,a6,a5,a8,a7,a9,HB⟩:=hcut;cases kq with
 | zero=>exact absurd HA.out (by simp [rX.j0])
 | succ PK =>
 obtain ⟨H⟩:=HA;simp only [rX.j0] at H
 have ck:=m_ H;clear H;go_upto_if 23 with (fail)
 go_cut [8] (fun v8 wc=>∃ (kq:Nat) (av:Int),v8=ah av∧aA (rX.j1 kq av bg aw al b4 b5 b6 b7=some (r1,r2,r3,r4,r5,r6))∧aA (kq≤PK)∧aA (wc.heap[cf]?=some (.cells #[ah dL,ah bh,ah bb,ah bi] 25))∧aA (wc.heap[cg]?=some (.cells #[(.slice ax bg.length bD)] 28))∧aA (wc.heap[ch]?=some (.cells #[ah aw,.string al,.string b4,ah b5,ah b6,.string b7] 45))∧aA (wc.heap[b8]?=some (.cells #[(.slice none 0 0)] 28))∧aA (wc.heap[b9]?=some (.cells #[ah 0,.string (⟨#[]⟩:ByteArray),ah 0,.bool false,(.slice none 0 0)] 49))∧aA (Below w.heap.size w wc))
 case first =>
  obtain ⟨H⟩:=ck;by_cases ct:ba=true
  ·subst ct;rw [if_pos rfl] at H;have H':=m_ H;clear H;go_wp2
   go_meet
   case rel=>exact ⟨_,(8),bC,H',⟨(by have:=Kv.out;first|omega|exact Nat.le_refl _)⟩,⟨(au a6)⟩,⟨(au a5)⟩,⟨(au a8)⟩,⟨(au a7)⟩,⟨(au a9)⟩,⟨ay⟩⟩
  replace ct:=Bool.eq_false_iff.mpr ct;subst ct;rw [if_neg iF] at H;have H':=m_ H;clear H;go_wp2
  go_meet
  case rel=>exact ⟨_,(bx),bC,H',⟨(by have:=Kv.out;first|omega|exact Nat.le_refl _)⟩,⟨(au a6)⟩,⟨(au a5)⟩,⟨(au a8)⟩,⟨(au a7)⟩,⟨(au a9)⟩,⟨ay⟩⟩
 case rest =>
 clear ck;obtain ⟨kq,av,rfl,HA,ap7,a6,a5,a8,a7,a9,HB⟩:=hcut;cases kq with
 | zero=>exact absurd HA.out (by simp [rX.j1])
 | succ amo =>
 obtain ⟨H⟩:=HA;simp only [rX.j1] at H
 revert H;refine eU (fun cl H=>?_) fun cl H=>?_
 ·have fE:=fU cl;have cv:=fV cl;clear cl;obtain ⟨cw,eh,H⟩:=bd_ H;simp only [gV] at H
  obtain ⟨rfl,rfl,rfl,rfl,rfl,rfl⟩:=H;obtain ⟨az,b0⟩:=gy ab aa;have aEF:=bZ a5.out;obtain ⟨bp,bo,bq,br⟩:=iD ae ac aK ai;have ei:=mg a8.out;go_wp2_with (first|((with_reducible refine cu 90 ?_);refine cO (some 37) rfl rfl func90 aC rfl #[.agg #[.slice ax bg.length bD],.agg #[.string al,.bool (aw == 2),.string (⟨#[]⟩:ByteArray)]] rfl bJ ?_;(with_reducible refine (jr.calls amo _ _ bg al (aw == 2) (⟨#[]⟩:ByteArray) cw _ pK bj.out eh.out).mono ?_);rintro e ep ⟨aDn,rfl,ho0,hb⟩;refine ⟨_,rfl,?_⟩;obtain ⟨ci,a6,a5,a8,a7,a9,HB⟩:=p_ (Kd.dR ho0 (bU ay)) <| qJ (au a6) (au a5) (au a8) (au a7) (au a9) ay hb;(try clear hb);(try clear ho0);obtain ⟨d4,d5,d6⟩:=Kd.dN ci.out;subst d6;obtain ⟨b2,b1,bs,bu⟩:=iD ag af ar aT;have apH:=bZ a7.out;obtain ⟨bv,bw⟩:=gy aO aH;have ej:=jc a9.out))
  refine bodyPost_ret (jq rfl _ _ b8 b9 28 49 #[.slice d4 cw.length d5] #[ah 0,.string (⟨#[]⟩:ByteArray),ah 0,.bool false,.slice none 0 0] (0,0) (0,0) _ _ rfl bf underlying28 rfl aC rfl bf underlying49 rfl aC) rfl ?_;exact ⟨_,_,bK,(by (with_reducible repeat (first|apply Kd.bW|apply Kd.bY|apply Kd.bH));exact Kd.bF (aJ (aJ (aJ (aJ (aJ (aJ (Kd.bV (Kd.bV ci.out a7.out (by decide)) a9.out (by decide)) (fun _ hk=>hk.1.2))))))) (fun _ hk=>trivial)),lH,ay⟩
 have fE:=fZ cl;have cv:=f_ cl;obtain ⟨cx,ek,H⟩:=bd_ H;obtain ⟨⟨cy,cz,d0,d1,d2⟩,el,H⟩:=bd_ H;simp only [gV] at H
 obtain ⟨rfl,rfl,rfl,rfl,rfl,rfl⟩:=H;obtain ⟨az,b0⟩:=gy ab aa;have apJ:=bZ a5.out;go_wp2_with (first|((with_reducible refine cu 73 ?_);refine cO (some 27) rfl rfl func73 aC rfl #[.agg #[.slice ax bg.length bD]] rfl bJ ?_;(with_reducible refine (rY.calls _ _ bg cx _ pK bj.out ek.out).mono ?_);rintro e eq ⟨aDo,rfl,ho0,hb⟩;refine ⟨_,rfl,?_⟩;obtain ⟨b3,a6,a5,a8,a7,a9,HB⟩:=p_ (Kd.dR ho0 (bU ay)) <| qJ (au a6) (au a5) (au a8) (au a7) (au a9) ay hb;(try clear hb);(try clear hk);(try clear ho0))|((with_reducible refine cu 75 ?_);refine cO (some 29) rfl rfl func75 aC rfl #[ah av] rfl bJ ?_;(with_reducible refine (oq.calls av cy cz d0 d1 d2 _ el.out).mono ?_);rintro e er ⟨aDp,rfl,ho0,hb⟩;refine ⟨_,rfl,?_⟩;obtain ⟨b3,cj,a6,a5,a8,a7,a9,HB⟩:=p_ (Kd.bG (aN b3) hb) <| p_ (Kd.dR ho0 (bU ay)) <| qJ (au a6) (au a5) (au a8) (au a7) (au a9) ay hb;(try clear hb);(try clear ho0);obtain ⟨d7,d8,d9⟩:=Kd.dN b3.out;subst d9;obtain ⟨b2,b1,br,bq,bs,bu⟩:=lU ag af ai aK ar aT;have aEP:=bZ a7.out;obtain ⟨bv,bw,bm,bl⟩:=iD aO aH aq ap;have em:=jc a9.out;obtain ⟨da,db,dd⟩:=Kd.dN cj.out;subst dd))
 refine bodyPost_ret (jq rfl _ _ b8 b9 28 49 #[.slice d7 cx.length d8] #[ah cy,.string cz,ah d0,.bool d1,.slice da d2.length db] (0,0) (0,0) _ _ rfl bf underlying28 rfl aC rfl bf underlying49 rfl aC) rfl ?_;exact ⟨_,_,bK,(by (with_reducible repeat (first|apply Kd.bW|apply Kd.bY|apply Kd.bH));exact Kd.bF (aJ (aJ (aJ (aJ (aJ (aJ (Kd.bV (Kd.bV b3.out a7.out (by decide)) a9.out (by decide)) (fun _ hk=>hk.1.2))))))) (fun _ hk=>trivial)),(by (with_reducible repeat (first|apply Kd.bW|apply Kd.bY|apply Kd.bH));exact Kd.bF (aJ (aJ (aJ (aJ (aJ (aJ (Kd.bV (Kd.bV cj.out a7.out (by decide)) a9.out (by decide)) (fun _ hk=>hk.1.2))))))) (fun _ hk=>trivial)),ay⟩

def uf.l0:Nat→ByteArray→Int→List (aF)→List (aF)→Option ((List (aF)))
 | 0,_,_,_,_=>none
 | k+1,x1,x6,a5,a6=>if x6 < (a5.length:Int) then (if 0≤x6 then (if ((aB a5 x6).f0).toList=x1.toList then (uf.l0 k x1 (wrap64 (x6+1)) a5 a6) else (if a6.length < 3518437208883 then (uf.l0 k x1 (wrap64 (x6+1)) a5 (a6++[(⟨(aB a5 x6).f0,(aB a5 x6).f1,(aB a5 x6).f2⟩:aF)])) else (none))) else (none)) else (some a6)
def uf.f (k:Nat) (a5:List (aF)) (a1:ByteArray):Option ((List (aF))):=uf.l0 k a1 0 a5 ([]:List (aF))
def uf.T6:Bool × List (List Nat × List Nat):=(true,[([],[]),([0],[0]),([],[]),([2],[2]),([],[]),([3,4],[3,4]),([5],[5]),([6],[6]),([1,7],[1,7]),([0,1,2,3,4,5,6,7,8],[]),([9,8,8,0,1,2,3,4,5,6,7,8],[8,9])])
def uf.B6:List Nat:=[0,1,0,4,0,28,60,124,255,511,1023]
theorem uf.calls (k:Nat) (b7:Option Addr) (b1:Nat) (aI:List (aF)) (a1:ByteArray) (r:List (aF)) (w:World) (b8:Kd.C aS w b7 aI.length aI) (b9:aI.length≤b1) (h:uf.f k aI a1=some r) :
  Calls Tryz.prog 77 #[.agg #[.slice b7 aI.length b1],.string a1] w fun e w'=>∃ fC:Value,e=.returned (.agg #[fC])∧Kd.R aS 43 w' w.heap.size (fun _=>True) fC r∧Below w.heap.size w w':=by
 have nT:=underlying28;have tX:=underlying43;have lg:=m_ b8;have bx:=m_ b9;clear b8 b9;have HB:=m_ (Below.refl w.heap.size w);unfold uf.f at h
 have H:=h;clear h;have H':=m_ H;clear H;go_enter func77,ntmps77
 go_wp2_with (first|((with_reducible refine dJ 2 ?_);refine dO 2 (cs:=#[.slice b7 aI.length b1]) 28 ?_;intro b2 hg w3 hbox hb;obtain ⟨HB,a6,bz,ca⟩:=jR ay hb hbox hg;clear hb hbox hg)|((with_reducible refine dJ 4 ?_);refine dO 4 (cs:=#[.slice none 0 0]) 28 ?_;intro b3 hg w4 hbox hb;obtain ⟨a6,HB,aa,cc,cd,aK,ai⟩:=oO (au a6) ay hb hbox hg;clear hb hbox hg)|((with_reducible refine dJ 5 ?_);refine dO 5 (cs:=#[.slice none 0 0]) 28 ?_;intro b0 hg w5 hbox hb;obtain ⟨a6,aa,HB,a8,ce,cf,af,ag,aH,aO⟩:=rP (au a6) (au aa) ay hb hbox hg;clear hb hbox hg;obtain ⟨aw,ax,ap,aq⟩:=iD ag af aO aH;have y7:=bZ a8.out))
 go_loopg [6] k (fun kq v6 w'=>∃ (a7:Int) (a9:List (aF)) (Ec:Value),v6=ah a7∧aA (uf.l0 kq a1 a7 aI a9=some r)∧aA (kq≤k)∧aA (Kd.R aS 43 w' w.heap.size (fun _=>True) Ec a9)∧aA (w'.heap[b2]?=some (.cells #[(.slice b7 aI.length b1)] 28))∧aA (w'.heap[b3]?=some (.cells #[(.slice none 0 0)] 28))∧aA (w'.heap[b0]?=some (.cells #[Ec] 28))∧aA (Below w.heap.size w w'))
 case atStart=>exact ⟨(0),(([]:List (aF))),(.slice none 0 0),bC,H',⟨Nat.le_refl _⟩,⟨lH⟩,⟨bf⟩,⟨bf⟩,⟨bf⟩,⟨ay⟩⟩
 case round =>
 clear H';try clear y7
 obtain ⟨a7,a9,Ec,rfl,HA,gG,a5,a6,aa,a8,HB⟩:=hrel;cases gk with
 | zero=>exact absurd HA.out (by simp [uf.l0])
 | succ k1 =>
 obtain ⟨H⟩:=HA;simp only [uf.l0] at H
 have cg:=m_ H;clear H;obtain ⟨b4,b5,ch,ci⟩:=iD aK ai af ag;have Ei:=bZ a6.out;go_upto_if 12 with (fail)
 (try clear b4 ax b5 aq aw ap)
 (try clear Ei)
 obtain ⟨H⟩:=cg;revert H;refine fB (fun bD H=>?_) fun bD H=>?_;rotate_left
 ·try simp only [aV,aZ,bD]
  obtain rfl:=bQ H;obtain ⟨cj,ck,ap,aq⟩:=iD ag af aO aH;have Xp:=bZ a8.out;obtain ⟨bp,bq,br⟩:=Kd.dN a5.out;subst br;have QM:=bZ aa.out;go_wp2
  refine bodyPost_ret (results_cell_row rfl _ _ b3 28 #[.slice bp a9.length bq] (0,0) _ rfl bf underlying28 rfl aC) rfl ?_;exact ⟨_,bK,(by (with_reducible repeat (first|apply Kd.bW|apply Kd.bY|apply Kd.bH));exact Kd.bF (aJ (Kd.bV a5.out aa.out (by decide))) (fun _ hk=>trivial)),ay⟩
 try simp only [aV,aZ,bD]
 obtain ⟨co,H⟩:=gI H;have bi:=m_ H;clear H;have J9:=bZ a6.out;have bb:0≤(a7:Int):=aX aY;have bc:a7 < (aI.length:Int):=aX aY;obtain ⟨al,bs,ar,aT,av⟩:=jV lg.out a7 bb bc;cases bs;replace ar:=fF HB.out ar;replace aT:=fF HB.out aT;replace av:=fF HB.out av;replace bb:=eq_true bb;replace bc:=eq_true bc;go_upto_if 22 with (fail)
 (try clear J9)
 (try clear ar aT av)
 obtain ⟨H⟩:=bi;revert H;refine eU (fun bd H=>?_) fun bd H=>?_
 ·have az:=fU bd;have bj:=fV bd;clear bd;try simp only [aV,aZ,az]
  have H':=m_ H;clear H;go_wp2
  go_roundg k1
  case measure=>have:=gG.out;omega
  case rel=>exact ⟨(wrap64 (a7+1)),(a9),(Ec),bC,H',⟨oz⟩,⟨(aN a5)⟩,⟨(au a6)⟩,⟨(au aa)⟩,⟨(au a8)⟩,⟨ay⟩⟩
 have az:=fZ bd;have bj:=f_ bd;try simp only [aV,aZ,az]
 obtain ⟨fE,H⟩:=lT H;have bl:=m_ fE;clear fE;obtain ⟨be,b6⟩:∃ y_:List (aF),y_=(a9++[(⟨(aB aI a7).f0,(aB aI a7).f1,(aB aI a7).f2⟩:aF)]):=⟨_,rfl⟩;rw [← b6] at H;have bm:=m_ b6;clear b6;have H':=m_ H;clear H;try go_wp2
 obtain ⟨a5,a6,aa,a8,HB⟩:=p_ (Kd.bH a5.out) <| Bf a6 aa a8 HB;have fA:0≤(a7:Int):=aX aY;have dL:a7 < (aI.length:Int):=aX aY;obtain ⟨fG,bu,am,an,ao⟩:=jV lg.out a7 fA dL;have ab:=ao;have ac:=an;have ae:=am;obtain rfl:al=fG:=(by injection bu);replace am:=fF HB.out am;replace an:=fF HB.out an;replace ao:=fF HB.out ao;replace fA:=eq_true fA;replace dL:=eq_true dL;refine iU (n:=11) (S:=fun w'=>jE w' b0 (Ec) <| jE w' b2 (.slice (some al) aI.length b1) <| uS w' (al.add ((a7).toNat * 3)) (.string ((aB aI a7).f0)) (.bool ((aB aI a7).f1)) (.string ((aB aI a7).f2))) (ds:=[10]) EK aC rfl rfl ⟨(aQ a8.out 0).trans rfl,(aQ a6.out 0).trans rfl,((HB.out.cell (World.block_lt_of_cell? w _ ae)).trans ae),((HB.out.cell (World.block_lt_of_cell? w _ ac)).trans ac),((HB.out.cell (World.block_lt_of_cell? w _ ab)).trans ab)⟩ (fun hH=>?_);refine kF (T:=uf.T6) (B:=uf.B6) aC aC (fun aP fK=>?_);generalize wr.drew=cw at a5 a6 aa a8 HB am an ao hH ⊢;refine bM 0 ?_;refine bM 2 ?_;refine bM 4 ?_;refine kE 1 hH ?_;refine kE 3 hH ?_;refine bM 5 ?_;refine kE 6 hH ?_;refine oH 7 (fun K hK=>?_);refine Xd (w1:=?_) (v:=?_) (by rfl) rfl ?_ ?_;rotate_left 2
 ·go_simp
  constructor
  ·rfl
  ·rfl
 refine hK.out _ _ ⟨(aQ (eP a8.out _) 0).trans rfl,(aQ (eP a6.out _) 0).trans rfl,(World.cell?_alloc_lt _ _ _ (World.block_lt_of_cell? _ _ (((HB.out.cell (World.block_lt_of_cell? w _ ae)).trans ae)))).trans (((HB.out.cell (World.block_lt_of_cell? w _ ae)).trans ae)),(World.cell?_alloc_lt _ _ _ (World.block_lt_of_cell? _ _ (((HB.out.cell (World.block_lt_of_cell? w _ ac)).trans ac)))).trans (((HB.out.cell (World.block_lt_of_cell? w _ ac)).trans ac)),(World.cell?_alloc_lt _ _ _ (World.block_lt_of_cell? _ _ (((HB.out.cell (World.block_lt_of_cell? w _ ab)).trans ab)))).trans (((HB.out.cell (World.block_lt_of_cell? w _ ab)).trans ab))⟩ (fun hH=>?_);clear hK K;refine gY (some 30) ?_;refine oH 8 (fun K hK=>?_);refine Kd.Ro aS (w0:=w) w.heap.size (by rfl) (.tmp 24) (.tmp 30) 26 43 (.agg #[(.string ⟨#[]⟩),(.bool false),(.string ⟨#[]⟩)]) 40 rfl underlying26 q_ rfl (by decide) (by omega) Ec a9 (⟨(aB aI a7).f0,(aB aI a7).f1,(aB aI a7).f2⟩:aF) [.string ((aB aI a7).f0),.bool ((aB aI a7).f1),.string ((aB aI a7).f2)] (fun _=>True) (fun _=>False) rfl rfl ?vM (fun _ hk=>hk.elim) ?mX ?l7 ?lZ ?l9 ?aL ?_;(case vM=>exact qU _ _ _ (⟨(aB aI a7).f0,(aB aI a7).f1,(aB aI a7).f2⟩:aF))
 (case lZ=>exact ay)
 (case mX=>exact (fun _ _=>trivial))
 (case l7=>exact (aN a5))
 (case l9=>exact (bU ay))
 (case aL=>have:=bl.out;omega)
 intro aDq cv ho hb hg hat;rw [← bm.out] at ho;obtain ⟨a6,aa,a8,HB,ba⟩:=p_ (iT (g:=b2) (o:=.cells #[.slice (some al) aI.length b1] 28) (au a6) hg (Kd.fD a5.out a6.out (by decide))) <| p_ (iT (g:=b3) (o:=.cells #[.slice none 0 0] 28) (au aa) hg (Kd.fD a5.out aa.out (by decide))) <| p_ (iT (g:=b0) (o:=.cells #[Ec] 28) (au a8) hg (Kd.fD a5.out a8.out (by decide))) <| p_ (hb) <| a_ (ho);clear ho hb hg hat;obtain ⟨bv,bw,bo⟩:=Kd.dN ba.out;(first|subst bo|(injection bo with eu iE eF;have iJ:=eu.symm;have iK:=eF.symm;clear eu iE eF;subst iJ;subst iK))
 refine hK.out _ _ ⟨(aQ a8.out 0).trans rfl,(aQ a6.out 0).trans rfl,((HB.out.cell (World.block_lt_of_cell? w _ ae)).trans ae),((HB.out.cell (World.block_lt_of_cell? w _ ac)).trans ac),((HB.out.cell (World.block_lt_of_cell? w _ ab)).trans ab)⟩ (fun hH=>?_);clear hK K;refine gY (some 31) ?_;refine bM 9 ?_;refine zI 10 (fun K hK=>?_);have aBj:cv.cell? ⟨b0,0,none⟩=some (Ec):=(aQ a8.out 0).trans rfl;have avn:=cZ a8.out 0;obtain ⟨ax,aq,aw,ap⟩:=iD af aH ag aO;refine jD (w1:=?_) (by rfl) rfl ?_ ?_;rotate_left
 ·go_simp
  rfl
 refine hK.out _ _ ?_;clear hK K;refine jd (kC aP.out aC) ?_;try go_wp2
 go_roundg k1
 case measure=>have:=gG.out;omega
 case rel=>exact ⟨(wrap64 (a7+1)),(be),(.slice bv be.length bw),bC,H',⟨oz⟩,⟨(by (with_reducible repeat (first|apply Kd.bW|apply Kd.bY|apply Kd.bH));exact Kd.bF (aJ (Kd.bV ba.out a8.out (by decide))) (fun _ hk=>trivial))⟩,⟨bf⟩,⟨bf⟩,⟨bf⟩,⟨ay⟩⟩

mutual
def qW.j0:Nat→List ByteArray→List ByteArray→Bool→Option (Bool)
 | 0,_,_,_=>none
 | k+1,x5,x7,a5=>if a5=true then (some false) else (qW.l0 k x5 x7 0)
def qW.l0:Nat→List ByteArray→List ByteArray→Int→Option (Bool)
 | 0,_,_,_=>none
 | k+1,x5,x7,oM=>if oM < (x7.length:Int) then (if 0≤oM then (if oM < (x5.length:Int) then (if (qV ByteArray.empty x5 oM).toList=(qV ByteArray.empty x7 oM).toList then (qW.l0 k x5 x7 (wrap64 (oM+1))) else (some false)) else (none)) else (none)) else (some true)
end
def qW.f (k:Nat) (a0:ByteArray) (a1:ByteArray):Option (Bool):=(jv.f k a0).bind fun a5=>((jv.f k a1).bind fun a6=>(if a5.2=0 then (if a6.2=0 then (qW.j0 k a5.1 a6.1 (decide ((a5.1.length:Int)≤(a6.1.length:Int)))) else (qW.j0 k a5.1 a6.1 true)) else (qW.j0 k a5.1 a6.1 true)))
theorem qW.calls (k:Nat) (a0:ByteArray) (a1:ByteArray) (r:Bool) (w:World) (h:qW.f k a0 a1=some r) :
  Calls Tryz.prog 15 #[.string a0,.string a1] w fun e w'=>e=.returned (.bool r)∧Below w.heap.size w w':=by
 have HB:=m_ (Below.refl w.heap.size w);unfold qW.f at h
 have H:=h;clear h;obtain ⟨⟨a7,af⟩,A3,H⟩:=bd_ H;obtain ⟨⟨a6,ag⟩,A4,H⟩:=bd_ H;have bD:=m_ H;clear H;go_enter func15,ntmps15
 go_upto_region 3 with (first|(go_at_call 53;(with_reducible refine (jv.calls k a0 a7 af _ A3.out).mono ?_);rintro e w6 ⟨J6,rfl,ho0,hb⟩;obtain ⟨yA,HB⟩:=p_ (Kd.dR ho0 (bU ay)) <| a_ (dV ay hb);(try clear hb);(try clear ho0))|(go_at_call 53;(with_reducible refine (jv.calls k a1 a6 ag _ A4.out).mono ?_);rintro e w7 ⟨J7,rfl,ho0,hb⟩;obtain ⟨yA,Nv,HB⟩:=p_ (Kd.jP (aN yA) (Kd.iY ho0) hb) <| p_ (Kd.dR (Kd.jQ ho0 (Kd.jl (aN yA))) (bU ay)) <| a_ (dV ay hb);(try clear hb);(try clear ho0)))
 repeat (go_quiet (first|(go_at_call 53;(with_reducible refine (jv.calls k a0 a7 af _ A3.out).mono ?_);rintro e w6 ⟨J6,rfl,ho0,hb⟩;obtain ⟨yA,HB⟩:=p_ (Kd.dR ho0 (bU ay)) <| a_ (dV ay hb);(try clear hb);(try clear ho0))|(go_at_call 53;(with_reducible refine (jv.calls k a1 a6 ag _ A4.out).mono ?_);rintro e w7 ⟨J7,rfl,ho0,hb⟩;obtain ⟨yA,Nv,HB⟩:=p_ (Kd.jP (aN yA) (Kd.iY ho0) hb) <| p_ (Kd.dR (Kd.jQ ho0 (Kd.jl (aN yA))) (bU ay)) <| a_ (dV ay hb);(try clear hb);(try clear ho0)));go_upto_region 3 with (first|(go_at_call 53;(with_reducible refine (jv.calls k a0 a7 af _ A3.out).mono ?_);rintro e w6 ⟨J6,rfl,ho0,hb⟩;obtain ⟨yA,HB⟩:=p_ (Kd.dR ho0 (bU ay)) <| a_ (dV ay hb);(try clear hb);(try clear ho0))|(go_at_call 53;(with_reducible refine (jv.calls k a1 a6 ag _ A4.out).mono ?_);rintro e w7 ⟨J7,rfl,ho0,hb⟩;obtain ⟨yA,Nv,HB⟩:=p_ (Kd.jP (aN yA) (Kd.iY ho0) hb) <| p_ (Kd.dR (Kd.jQ ho0 (Kd.jl (aN yA))) (bU ay)) <| a_ (dV ay hb);(try clear hb);(try clear ho0))))
 (try simp only [fM])
 go_cut [32] (fun v32 wc=>∃ (kq:Nat) (ab:Bool),v32=.bool ab∧aA (qW.j0 kq a7 a6 ab=some r)∧aA (kq≤k)∧aA (Kd.R Kd.string 9 wc w.heap.size (fun ak=>some ak≠(J7:Value).ownBlock) J6 a7)∧aA (Kd.R Kd.string 9 wc w.heap.size (fun ak=>some ak≠(J6:Value).ownBlock) J7 a6)∧aA (Below w.heap.size w wc))
 case first =>
  obtain ⟨H⟩:=bD;revert H;refine eU (fun c8 H=>?_) fun c8 H=>?_;rotate_left
  ·have aa:=fZ c8;have aH:=f_ c8;try simp only [aV,aZ,aa]
   have H':=m_ H;clear H;go_wp2
   repeat (go_quiet (fail);try go_wp2)
   go_meet
   case rel=>exact ⟨_,(true),bC,H',⟨lM⟩,⟨WS⟩,⟨WR⟩,⟨ay⟩⟩
  have aa:=fU c8;have aH:=fV c8;clear c8;try simp only [aV,aZ,aa]
  revert H;refine eU (fun c9 H=>?_) fun c9 H=>?_;rotate_left
  ·have aO:=fZ c9;have al:=f_ c9;have H':=m_ H;clear H;go_wp2
   repeat (go_quiet (fail);try go_wp2)
   go_meet
   case rel=>exact ⟨_,(true),bC,H',⟨lM⟩,⟨WS⟩,⟨WR⟩,⟨ay⟩⟩
  have aO:=fU c9;have al:=fV c9;clear c9;have H':=m_ H;clear H;obtain ⟨bb,bc,az⟩:=Kd.dN yA.out;subst az;obtain ⟨bd,be,b0⟩:=Kd.dN Nv.out;subst b0;go_wp2
  repeat (go_quiet (fail);try go_wp2)
  go_meet
  case rel=>exact ⟨_,(decide ((a7.length:Int)≤(a6.length:Int))),bC,H',⟨lM⟩,⟨WS⟩,⟨WR⟩,⟨ay⟩⟩
 case rest =>
 clear bD;obtain ⟨kq,ab,rfl,HA,Kv,ac,ae,HB⟩:=hcut;cases kq with
 | zero=>exact absurd HA.out (by simp [qW.j0])
 | succ PK =>
 obtain ⟨H⟩:=HA;simp only [qW.j0] at H
 by_cases aT:ab=true
 ·subst aT;rw [if_pos rfl] at H;obtain rfl:=bQ H;go_wp2
  repeat (go_quiet (fail);try go_wp2)
  go_ret
  exact ⟨bK,ay⟩
 replace aT:=Bool.eq_false_iff.mpr aT;subst aT;rw [if_neg iF] at H;have H':=m_ H;clear H;go_wp2
 repeat (go_quiet (fail);try go_wp2)
 go_loopg [9] PK (fun kq v9 w'=>∃ (a5:Int),v9=ah a5∧aA (qW.l0 kq a7 a6 a5=some r)∧aA (kq≤PK)∧aA (Kd.R Kd.string 9 w' w.heap.size (fun ak=>some ak≠(J7:Value).ownBlock) J6 a7)∧aA (Kd.R Kd.string 9 w' w.heap.size (fun ak=>some ak≠(J6:Value).ownBlock) J7 a6)∧aA (Below w.heap.size w w'))
 case atStart=>exact ⟨(0),bC,H',⟨Nat.le_refl _⟩,⟨(aN ac)⟩,⟨(aN ae)⟩,⟨ay⟩⟩
 case round =>
 clear H';try clear aT
 obtain ⟨a5,rfl,HA,kS,ac,ae,HB⟩:=hrel;cases gk with
 | zero=>exact absurd HA.out (by simp [qW.l0])
 | succ k2 =>
 obtain ⟨H⟩:=HA;simp only [qW.l0] at H
 have av:=m_ H;clear H;obtain ⟨fA,dL,b1⟩:=Kd.dN ae.out;subst b1;go_upto_if 36 with (fail)
 repeat (go_quiet (fail);go_upto_if 36 with (fail))
 obtain ⟨H⟩:=av;revert H;refine fB (fun a8 H=>?_) fun a8 H=>?_;rotate_left
 ·try simp only [aV,aZ,a8]
  obtain rfl:=bQ H;go_wp2
  repeat (go_quiet (fail);try go_wp2)
  go_ret
  exact ⟨bK,ay⟩
 try simp only [aV,aZ,a8]
 obtain ⟨b6,H⟩:=gI H;obtain ⟨b8,H⟩:=gI H;have aw:=m_ H;clear H;obtain ⟨bh,bi,b2⟩:=Kd.dN ac.out;subst b2;have am:0≤(a5:Int):=aX aY;have an:a5 < (a7.length:Int):=aX aY;obtain ⟨b9,b3,aK⟩:=Kd.Aa (Kd.dn ac.out).2.2 a5 am an;cases b3;replace am:=eq_true am;replace an:=eq_true an;have ao:0≤(a5:Int):=aX aY;have ap:a5 < (a6.length:Int):=aX aY;obtain ⟨ba,b4,ai⟩:=Kd.Aa (Kd.dn ae.out).2.2 a5 ao ap;cases b4;replace ao:=eq_true ao;replace ap:=eq_true ap;go_upto_if 47 with (fail)
 repeat (go_quiet (fail);go_upto_if 47 with (fail))
 (try clear aK)
 (try clear ai)
 obtain ⟨H⟩:=aw;revert H;refine eU (fun aq H=>?_) fun aq H=>?_;rotate_left
 ·have a9:=fZ aq;have ax:=f_ aq;try simp only [aV,aZ,a9]
  obtain rfl:=bQ H;go_wp2
  repeat (go_quiet (fail);try go_wp2)
  go_ret
  exact ⟨bK,ay⟩
 have a9:=fU aq;have ax:=fV aq;clear aq;try simp only [aV,aZ,a9]
 have H':=m_ H;clear H;go_wp2
 repeat (go_quiet (fail);try go_wp2)
 go_roundg k2
 case measure=>have:=Kv.out;have:=kS.out;omega
 case rel=>exact ⟨(wrap64 (a5+1)),bC,H',⟨(by have:=Kv.out;have:=kS.out;omega)⟩,⟨(aN ac)⟩,⟨(aN ae)⟩,⟨ay⟩⟩

mutual
def jf.l0:Nat→ByteArray→ByteArray→Int→List (aF)→List (aF)→Option ((List (aF)))
 | 0,_,_,_,_,_=>none
 | k+1,x1,x2,gZ,a5,a6=>if gZ < (a5.length:Int) then (if 0≤gZ then (if ((aB a5 gZ).f0).toList=x1.toList then (jf.j1 k x1 x2 gZ true a5 a6 ((aB a5 gZ).f0) ((aB a5 gZ).f1) ((aB a5 gZ).f2)) else ((qW.f k ((aB a5 gZ).f0) x1).bind fun a7=>(jf.j1 k x1 x2 gZ a7 a5 a6 ((aB a5 gZ).f0) ((aB a5 gZ).f1) ((aB a5 gZ).f2)))) else (none)) else (some a6)
def jf.j1:Nat→ByteArray→ByteArray→Int→Bool→List (aF)→List (aF)→ByteArray→Bool→ByteArray→Option ((List (aF)))
 | 0,_,_,_,_,_,_,_,_,_=>none
 | k+1,x1,x2,gZ,ac,a6,a7,a5,a8,a9=>if ac=true then (if 0≤(x1.size:Int) then (if (x1.size:Int)≤(a5.size:Int) then ((some (a5.extract ((x1.size:Int):Int).toNat a5.size:ByteArray)).bind fun aa=>(if x2.size+aa.size≤9223372036854775807 then ((some (x2++aa:ByteArray)).bind fun ab=>(jf.j2 k x1 x2 gZ a6 a7 ab a8 a9)) else (none))) else (none)) else (none)) else (jf.j2 k x1 x2 gZ a6 a7 a5 a8 a9)
def jf.j2:Nat→ByteArray→ByteArray→Int→List (aF)→List (aF)→ByteArray→Bool→ByteArray→Option ((List (aF)))
 | 0,_,_,_,_,_,_,_,_=>none
 | k+1,x1,x2,gZ,a5,a6,a7,a8,a9=>jf.l1 k x1 x2 gZ 0 a5 a6 a7 a8 a9
def jf.l1:Nat→ByteArray→ByteArray→Int→Int→List (aF)→List (aF)→ByteArray→Bool→ByteArray→Option ((List (aF)))
 | 0,_,_,_,_,_,_,_,_,_=>none
 | k+1,x1,x2,gZ,aa,a7,a5,a6,a8,a9=>if aa < (a5.length:Int) then (if 0≤aa then (if ((Op.bytesLess a6.toList (((aB a5 aa).f0).toList))=true) then ((some (([]:List (aF)):List (aF))).bind fun ab=>(if aa≤(a5.length:Int) then ((some (a5.take (aa:Int).toNat:List (aF))).bind fun ac=>(if ab.length+ac.length < 3518437208883 then ((some (ab++ac:List (aF))).bind fun ae=>((some (([(⟨a6,a8,a9⟩:aF)]:List (aF)):List (aF))).bind fun af=>(if ae.length+af.length < 3518437208883 then ((some (ae++af:List (aF))).bind fun ag=>((some (a5.drop (aa:Int).toNat:List (aF))).bind fun aK=>(if ag.length+aK.length < 3518437208883 then (jf.l0 k x1 x2 (wrap64 (gZ+1)) a7 (ag++aK)) else (none)))) else (none)))) else (none))) else (none))) else (jf.l1 k x1 x2 gZ (wrap64 (aa+1)) a7 a5 a6 a8 a9)) else (none)) else ((some (([]:List (aF)):List (aF))).bind fun ai=>(if 0≤aa then (if aa≤(a5.length:Int) then ((some (a5.take (aa:Int).toNat:List (aF))).bind fun aH=>(if ai.length+aH.length < 3518437208883 then ((some (ai++aH:List (aF))).bind fun aO=>((some (([(⟨a6,a8,a9⟩:aF)]:List (aF)):List (aF))).bind fun al=>(if aO.length+al.length < 3518437208883 then ((some (aO++al:List (aF))).bind fun am=>((some (a5.drop (aa:Int).toNat:List (aF))).bind fun an=>(if am.length+an.length < 3518437208883 then (jf.l0 k x1 x2 (wrap64 (gZ+1)) a7 (am++an)) else (none)))) else (none)))) else (none))) else (none)) else (none)))
end
def jf.f (k:Nat) (a5:List (aF)) (a1:ByteArray) (a2:ByteArray):Option ((List (aF))):=jf.l0 k a1 a2 0 a5 ([]:List (aF))
def jf.T9:Bool × List (List Nat × List Nat):=(true,[([],[]),([],[]),([1],[1]),([2],[2]),([0,3],[0,3]),([4],[4]),([5],[5]),([6,5],[5,6]),([5],[5]),([7,8,5],[5,7,8]),([9,5],[5,9]),([10,5],[5,10]),([5],[5]),([12,5],[5,12]),([11,13,5],[5,11,13]),([5,14],[5,14])])
def jf.B9:List Nat:=[0,0,2,6,15,31,63,127,63,511,1023,2047,63,4159,16383,32767]
theorem jf.MR:kZ .any (opsOf Tryz.f11 9)=jf.T9:=by kernel_rfl
theorem jf.KP:vF jf.T9.2 jf.B9=true:=by kernel_rfl
def jf.T11:Bool × List (List Nat × List Nat):=(true,[([],[]),([],[]),([1],[1]),([],[]),([2,3],[2,3]),([0,4],[0,4]),([],[]),([6],[6]),([5,7,5],[5,7]),([8,8,0,1,2,3,4,5,6,7,8],[8])])
def jf.B11:List Nat:=[0,0,2,0,14,31,0,64,255,511]
theorem jf.acS:kZ .any (opsOf Tryz.f11 11)=jf.T11:=by kernel_rfl
theorem jf.X7:vF jf.T11.2 jf.B11=true:=by kernel_rfl
theorem jf.calls (k:Nat) (d2:Option Addr) (aO:Nat) (aI:List (aF)) (a1:ByteArray) (a2:ByteArray) (r:List (aF)) (w:World) (d9:Kd.C aS w d2 aI.length aI) (da:aI.length≤aO) (h:jf.f k aI a1 a2=some r) :
  Calls Tryz.prog 11 #[.agg #[.slice d2 aI.length aO],.string a1,.string a2] w fun e w'=>∃ fC:Value,e=.returned (.agg #[fC])∧Kd.R aS 43 w' w.heap.size (fun _=>True) fC r∧Below w.heap.size w w':=by
 have nT:=underlying28;have tX:=underlying43;have lg:=m_ d9;have fp:=m_ da;clear d9 da;have HB:=m_ (Below.refl w.heap.size w);unfold jf.f at h
 have H:=h;clear h;have H':=m_ H;clear H;go_enter func11,ntmps11
 go_wp2_with (first|((with_reducible refine dJ 3 ?_);refine dO 3 (cs:=#[.slice d2 aI.length aO]) 28 ?_;intro ai hg w4 hbox hb;obtain ⟨HB,a7,fq,fr⟩:=jR ay hb hbox hg;clear hb hbox hg)|((with_reducible refine dJ 6 ?_);refine dO 6 (cs:=#[.slice none 0 0]) 28 ?_;intro aK hg w5 hbox hb;obtain ⟨a7,HB,a8,fs,ft,b1,b2⟩:=oO (au a7) ay hb hbox hg;clear hb hbox hg)|((with_reducible refine dJ 7 ?_);refine dO 7 (cs:=#[.slice none 0 0]) 28 ?_;intro ab hg w6 hbox hb;obtain ⟨a7,a8,HB,a6,fu,fw,an,ao,ap,aq⟩:=rP (au a7) (au a8) ay hb hbox hg;clear hb hbox hg;obtain ⟨al,am,aw,ax⟩:=iD ao an aq ap;have Ej:=bZ a6.out))
 go_loopg [8] k (fun kq v8 w'=>∃ (dw:Int) (a5:List (aF)) (BK:Value),v8=ah dw∧aA (jf.l0 kq a1 a2 dw aI a5=some r)∧aA (kq≤k)∧aA (Kd.R aS 43 w' w.heap.size (fun _=>True) BK a5)∧aA (w'.heap[ai]?=some (.cells #[(.slice d2 aI.length aO)] 28))∧aA (w'.heap[aK]?=some (.cells #[(.slice none 0 0)] 28))∧aA (w'.heap[ab]?=some (.cells #[BK] 28))∧aA (Below w.heap.size w w'))
 case atStart=>exact ⟨(0),(([]:List (aF))),(.slice none 0 0),bC,H',⟨Nat.le_refl _⟩,⟨lH⟩,⟨bf⟩,⟨bf⟩,⟨bf⟩,⟨ay⟩⟩
 case round =>
 clear H';try clear Ej
 obtain ⟨dw,a5,BK,rfl,HA,gG,eX,a7,a8,a6,HB⟩:=hrel;cases gk with
 | zero=>exact absurd HA.out (by simp [jf.l0])
 | succ k1 =>
 obtain ⟨H⟩:=HA;simp only [jf.l0] at H
 have e7:=m_ H;clear H;obtain ⟨bD,az⟩:=gy b1 b2;have Dc:=bZ a7.out;go_upto_if 17 with (fail)
 (try clear bD am az ax al aw)
 (try clear Dc)
 obtain ⟨H⟩:=e7;revert H;refine fB (fun b4 H=>?_) fun b4 H=>?_;rotate_left
 ·try simp only [aV,aZ,b4]
  obtain rfl:=bQ H;obtain ⟨al,am,aw,ax⟩:=iD ao an aq ap;have aD_:=bZ a6.out;obtain ⟨e8,e9,ea⟩:=Kd.dN eX.out;subst ea;have aD':=bZ a8.out;go_wp2
  refine bodyPost_ret (results_cell_row rfl _ _ aK 28 #[.slice e8 a5.length e9] (0,0) _ rfl bf underlying28 rfl aC) rfl ?_;exact ⟨_,bK,(by (with_reducible repeat (first|apply Kd.bW|apply Kd.bY|apply Kd.bH));exact Kd.bF (aJ (Kd.bV eX.out a8.out (by decide))) (fun _ hk=>trivial)),ay⟩
 try simp only [aV,aZ,b4]
 obtain ⟨cn,H⟩:=gI H;have lJ:=m_ H;clear H;obtain ⟨bD,az,am,al⟩:=iD b1 b2 an ao;have ad7:=bZ a7.out;have ca:0≤(dw:Int):=aX aY;have cc:dw < (aI.length:Int):=aX aY;obtain ⟨aH,ez,ar,aT,av⟩:=jV lg.out dw ca cc;cases ez;replace ar:=fF HB.out ar;replace aT:=fF HB.out aT;replace av:=fF HB.out av;replace ca:=eq_true ca;replace cc:=eq_true cc;go_upto_region 6 with (first|((with_reducible refine dJ 9 ?_);refine dO 9 (cs:=#[.string (⟨#[]⟩:ByteArray),.bool false,.string (⟨#[]⟩:ByteArray)]) 43 ?_;intro gq hg FB hbox hb;obtain ⟨eX,a7,a8,a6,HB,d_,fx,fy,b8,cd,b9,ce,b3,ba⟩:=p_ (Kd.bG (Kd.Rt (aN eX) gq (Nat.le_of_eq hg.symm)) hb) <| zl (au a7) (au a8) (au a6) ay hb hbox hg;clear hb hbox hg;obtain ⟨co,cp,cq,cr,bo,bp⟩:=lU cd b8 ce b9 ba b3;have bs:=qj d_.out))
 (try simp only [fM])
 go_cut [34] (fun v34 wc=>∃ (kq:Nat) (fA:Bool),v34=.bool fA∧aA (jf.j1 kq a1 a2 dw fA aI a5 ((aB aI dw).f0) ((aB aI dw).f1) ((aB aI dw).f2)=some r)∧aA (kq≤k1)∧aA (Kd.R aS 43 wc w.heap.size (fun ak=>ak≠gq) BK a5)∧aA (wc.heap[ai]?=some (.cells #[(.slice (some aH) aI.length aO)] 28))∧aA (wc.heap[aK]?=some (.cells #[(.slice none 0 0)] 28))∧aA (wc.heap[ab]?=some (.cells #[BK] 28))∧aA (wc.heap[gq]?=some (.cells #[.string ((aB aI dw).f0),.bool ((aB aI dw).f1),.string ((aB aI dw).f2)] 43))∧aA (Below w.heap.size w wc))
 case first =>
  obtain ⟨H⟩:=lJ;revert H;refine eU (fun d1 H=>?_) fun d1 H=>?_
  ·have b5:=fU d1;have bu:=fV d1;clear d1;try simp only [aV,aZ,b5]
   have H':=m_ H;clear H;have cf:=qj d_.out;go_wp2
   go_meet
   case rel=>exact ⟨_,(true),bC,H',⟨Qj⟩,⟨(by (with_reducible repeat (first|apply Kd.bW|apply Kd.bY|apply Kd.bH));exact Kd.bF (aJ (aJ (aJ (Kd.bF eX.out (fun ak hk=>(⟨hk,hk.2⟩:_∧ak≠gq)))))) (fun _ hk=>hk.1.2))⟩,⟨bf⟩,⟨bf⟩,⟨bf⟩,⟨bf⟩,⟨ay⟩⟩
  have b5:=fZ d1;have bu:=f_ d1;try simp only [aV,aZ,b5]
  obtain ⟨ec,ic,H⟩:=bd_ H;have H':=m_ H;clear H;have cg:=qj d_.out;go_wp2_with (first|(go_at_call 15;(with_reducible refine (qW.calls k1 ((aB aI dw).f0) a1 ec _ ic.out).mono ?_);rintro e ir ⟨rfl,hb⟩;have ji:=p_ (Kd.bG (by (with_reducible repeat (first|apply Kd.bW|apply Kd.bY|apply Kd.bH));exact (Kd.bF (aJ (aJ (aJ (Kd.bF eX.out (fun ak hk=>(⟨hk,hk.2⟩:_∧ak≠gq)))))) (fun _ bI=>bI.1))) hb) <| p_ (aU (g:=ai) (o:=.cells #[.slice (some aH) aI.length aO] 28) (qK a7.out b8.out) hb) <| p_ (aU (g:=aK) (o:=.cells #[.slice none 0 0] 28) (qK a8.out b9.out) hb) <| p_ (aU (g:=ab) (o:=.cells #[BK] 28) (qK a6.out b3.out) hb) <| p_ (aU (g:=gq) (o:=.cells #[.string ((aB aI dw).f0),.bool ((aB aI dw).f1),.string ((aB aI dw).f2)] 43) (DV d_.out) hb) <| a_ (dV ay hb);clear eX a7 a8 a6 d_ HB;obtain ⟨eX,a7,a8,a6,d_,HB⟩:=ji;(try clear hb);(try clear hk)))
  go_meet
  case rel=>exact ⟨_,(ec),bC,H',⟨Qj⟩,⟨(by (with_reducible repeat (first|apply Kd.bW|apply Kd.bY|apply Kd.bH));exact Kd.bF eX.out (fun _ hk=>hk.2))⟩,⟨(au a7)⟩,⟨(au a8)⟩,⟨(au a6)⟩,⟨(au d_)⟩,⟨ay⟩⟩
 case rest =>
 clear lJ;try clear d3;try clear b4;try clear eb;try clear cn;try clear ad7;try clear bs;try clear ad7;try clear ar;try clear aT;try clear av;try clear ca;try clear cc
 obtain ⟨kq,fA,rfl,HA,Gs,eX,a7,a8,a6,d_,HB⟩:=hcut;cases kq with
 | zero=>exact absurd HA.out (by simp [jf.j1])
 | succ VU =>
 obtain ⟨H⟩:=HA;simp only [jf.j1] at H
 have dp:=m_ H;clear H;go_upto_if 34 with (fail)
 go_cut [] (fun wc=>∃ (kq:Nat) (jL:ByteArray),aA (jf.j2 kq a1 a2 dw aI a5 jL ((aB aI dw).f1) ((aB aI dw).f2)=some r)∧aA (kq≤VU)∧aA (Kd.R aS 43 wc w.heap.size (fun ak=>ak≠gq) BK a5)∧aA (wc.heap[ai]?=some (.cells #[(.slice (some aH) aI.length aO)] 28))∧aA (wc.heap[aK]?=some (.cells #[(.slice none 0 0)] 28))∧aA (wc.heap[ab]?=some (.cells #[BK] 28))∧aA (wc.heap[gq]?=some (.cells #[.string jL,.bool ((aB aI dw).f1),.string ((aB aI dw).f2)] 43))∧aA (Below w.heap.size w wc))
 case first =>
  obtain ⟨H⟩:=dp;by_cases e3:fA=true
  rotate_left
  ·replace e3:=Bool.eq_false_iff.mpr e3;subst e3;rw [if_neg iF] at H;have H':=m_ H;clear H;go_wp2
   go_meet
   case rel=>exact ⟨_,(((aB aI dw).f0)),H',⟨(by have:=gG.out;have:=Gs.out;first|omega|exact Nat.le_refl _)⟩,⟨(aN eX)⟩,⟨(au a7)⟩,⟨(au a8)⟩,⟨(au a6)⟩,⟨(au d_)⟩,⟨ay⟩⟩
  subst e3;rw [if_pos rfl] at H;obtain ⟨db,dd,H⟩:=jF H;obtain ⟨de,df,H⟩:=jF H;obtain ⟨d4,dg⟩:∃ y_:ByteArray,(((aB aI dw).f0).extract ((a1.size:Int):Int).toNat ((aB aI dw).f0).size)=y_:=⟨_,rfl⟩;replace H:(if a2.size+d4.size≤9223372036854775807 then ((some (a2++d4:ByteArray)).bind fun d5=>(jf.j2 VU a1 a2 dw aI a5 d5 ((aB aI dw).f1) ((aB aI dw).f2))) else (none))=some r:=by rw [← dg];exact (Option.bind_some _ _).symm.trans H
  (try simp only [Int.toNat_natCast] at dg)
  obtain ⟨e4,H⟩:=lT H;have pF:=eq_true e4;have di:=nJ e4;try have dj:(9223372036854775807 < a2.size+d4.size)=False:=eq_false (Nat.not_lt.2 e4)
  clear e4;obtain ⟨d5,dk⟩:∃ y_:ByteArray,(a2++d4)=y_:=⟨_,rfl⟩;replace H:(jf.j2 VU a1 a2 dw aI a5 d5 ((aB aI dw).f1) ((aB aI dw).f2))=some r:=by rw [← dk];exact (Option.bind_some _ _).symm.trans H
  (try simp only [Int.toNat_natCast] at dk)
  have H':=m_ H;clear H;have d6:=qj d_.out;go_wp2
  go_meet
  case rel=>exact ⟨_,(d5),H',⟨(by have:=gG.out;have:=Gs.out;first|omega|exact Nat.le_refl _)⟩,⟨(by (with_reducible repeat (first|apply Kd.bW|apply Kd.bY|apply Kd.bH));exact Kd.bF (aJ (Kd.bF eX.out (fun ak hk=>(⟨hk,hk⟩:_∧ak≠gq)))) (fun _ hk=>hk.1))⟩,⟨bf⟩,⟨bf⟩,⟨bf⟩,⟨bf⟩,⟨ay⟩⟩
 case rest =>
 clear dp;obtain ⟨kq,jL,HA,Nr,eX,a7,a8,a6,d_,HB⟩:=hcut;cases kq with
 | zero=>exact absurd HA.out (by simp [jf.j2])
 | succ abt =>
 obtain ⟨H⟩:=HA;simp only [jf.j2] at H
 have H':=m_ H;clear H;go_wp2
 go_loopg [10] abt (fun kq v10 w'=>∃ (a9:Int),v10=ah a9∧aA (jf.l1 kq a1 a2 dw a9 aI a5 jL ((aB aI dw).f1) ((aB aI dw).f2)=some r)∧aA (kq≤abt)∧aA (Kd.R aS 43 w' w.heap.size (fun ak=>ak≠gq) BK a5)∧aA (w'.heap[ai]?=some (.cells #[(.slice (some aH) aI.length aO)] 28))∧aA (w'.heap[aK]?=some (.cells #[(.slice none 0 0)] 28))∧aA (w'.heap[ab]?=some (.cells #[BK] 28))∧aA (w'.heap[gq]?=some (.cells #[.string jL,.bool ((aB aI dw).f1),.string ((aB aI dw).f2)] 43))∧aA (Below w.heap.size w w'))
 case atStart=>exact ⟨(0),bC,H',⟨Nat.le_refl _⟩,⟨(aN eX)⟩,⟨(au a7)⟩,⟨(au a8)⟩,⟨(au a6)⟩,⟨(au d_)⟩,⟨ay⟩⟩
 case round =>
 clear H';obtain ⟨a9,rfl,HA,Nu,eX,a7,a8,a6,d_,HB⟩:=hrel;cases gk with
 | zero=>exact absurd HA.out (by simp [jf.l1])
 | succ k4 =>
 obtain ⟨H⟩:=HA;simp only [jf.l1] at H
 revert H;refine fB (fun ef H=>?_) fun ef H=>?_;rotate_left
 ·obtain ⟨dq,bv,H⟩:=uX H;obtain ⟨gp,BU,H⟩:=jF H;obtain ⟨gr,gs,H⟩:=jF H;obtain ⟨b6,bq,H⟩:=uX H;obtain ⟨gt,H⟩:=lT H;have ct:=m_ gt;clear gt;obtain ⟨dr,fE,H⟩:=uX H;obtain ⟨dL,bb,H⟩:=uX H;obtain ⟨vN,H⟩:=lT H;have eh:=m_ vN;clear vN;obtain ⟨ei,ej,H⟩:=uX H;have gv:=eq_true (aX aY:0≤a9);have gw:=eq_true (aX aY:a9≤(a5.length:Int));obtain ⟨bh,cv,H⟩:=uX H;obtain ⟨gx,H⟩:=lT H;have ek:=m_ gx;clear gx;obtain ⟨dt,cw⟩:∃ y_:List (aF),y_=(ei++bh):=⟨_,rfl⟩;rw [← cw] at H;have el:=m_ cw;clear cw;have H':=m_ H;clear H;try go_wp2
  obtain ⟨eX,a7,a8,a6,d_,HB⟩:=p_ (Kd.bH eX.out) <| yG a7 a8 a6 d_ HB;obtain ⟨ac,ae,em⟩:=Kd.dN eX.out;(first|subst em|(injection em with eu iE eF;have iJ:=eu.symm;have iK:=eF.symm;clear eu iE eF;subst iJ;subst iK))
  refine iU (n:=16) (S:=fun w'=>w'.cell? ⟨ab,0,none⟩=some (.slice ac a5.length ae)) (ds:=[]) RN aC rfl rfl ((aQ a6.out 0).trans rfl) (fun hH=>?_);refine kF jf.MR jf.KP (fun aP fK=>?_);generalize wr.drew=ii at eX a7 a8 a6 d_ HB hH ⊢;refine dF 0 43 Ym aP ?_;refine dF 1 44 Yn aP ?_;refine qX (i:=2) (N:=some 45) (v:=?_) (a':=?_) Yo rfl rfl (MS aP.out fK.out aC) (fun _ _ _ h=>h) (Or.inl ⟨(by rfl),?_⟩) hH ?_ ?_;rotate_left
  ·intro w' s0;go_simp
   with_reducible rfl
  rotate_left
  ·simp only [fM,aV,aZ]
   rfl
  refine dF 3 46 Yp aP ?_;refine dF 4 47 Yq aP ?_;refine dF 5 48 Yr aP ?_;refine yZ 6 49 RP aP ?_;refine yZ 7 50 Yt aP ?_;refine yZ 8 51 Yu aP ?_;refine yZ 9 52 Yv aP ?_;refine yZ 10 53 Yw aP ?_;refine yZ 11 54 Yx aP ?_;refine yZ 12 55 RQ aP ?_;refine yZ 13 56 Hf aP ?_;refine yZ 14 57 RS aP ?_;refine dF 15 58 RU aP ?_;refine jd (kC aP.out aC) ?_;try go_wp2
  obtain ⟨eX,a7,a8,a6,d_,HB⟩:=p_ (Kd.bH eX.out) <| yG a7 a8 a6 d_ HB;have f7:(a9:Int)≤((a5.length:Int):Int):=aX aY;obtain ⟨aCu,aaG,_,alR,_⟩:=info_parts q_;have aaQ:a5.length≤ae:=(Kd.dn eX.out).2.1;have Zo:Kd.C aS _ ac a5.length a5:=(Kd.dn eX.out).2.2;have agI:=EP (P:=Tryz.prog) 26 43 .i64 underlying26 aaG ac a5.length ae a9 (aX aY) f7 aaQ;have VD:=Kd.yx (m:=(a9:Int).toNat) Zo (by omega);have du:b6.length=(a9:Int).toNat:=(by rw [bq.out,List.length_take];omega);rw [← bq.out] at VD;rw [← du] at agI;have xO:=m_ VD;have zy:=m_ (show b6.length≤ae from by omega);clear VD Zo aaQ aaG alR;have aqg:=m_ du;clear du;have Rl:=m_ (show (a9:Int).toNat≤a5.length from by omega);replace f7:=eq_true f7;refine iU (n:=10) (S:=fun w'=>jE w' ab (.slice ac a5.length ae) <| Di w' gq (.string jL) (.bool ((aB aI dw).f1)) (.string ((aB aI dw).f2))) (ds:=[]) RV aC rfl rfl ⟨(aQ a6.out 0).trans rfl,tK d_.out⟩ (fun hH=>?_);refine kF jf.acS jf.X7 (fun aP fK=>?_);generalize ii.drew=iu at eX a7 a8 a6 d_ HB xO hH ⊢;refine dF 1 62 Yy aP ?_;refine dF 3 64 Yz aP ?_;refine j_ 2 63 YA aP fK hH ?_;refine dF 4 65 YB aP ?_;refine j_ 6 67 YC aP fK hH ?_;refine FH (σ:=Value × Value × Value) 2 Dx (fun s_=>[(61,s_.1),(66,s_.2.1),(68,s_.2.2)]) (fun s_ w'=>(jE w' ab (.slice ac a5.length ae) <| Di w' gq (.string jL) (.bool ((aB aI dw).f1)) (.string ((aB aI dw).f2)))∧(Kd.R aS 43 w' w.heap.size (fun ak=>some ak≠(s_.2.2:Value).ownBlock∧some ak≠(.slice ac a5.length ae:Value).ownBlock∧ak≠gq) s_.2.1 dr)∧(Kd.R aS 43 w' w.heap.size (fun ak=>some ak≠(s_.2.1:Value).ownBlock∧some ak≠(.slice ac a5.length ae:Value).ownBlock∧ak≠gq) s_.2.2 dL)∧(Kd.R aS 43 w' w.heap.size (fun ak=>some ak≠(s_.2.1:Value).ownBlock∧some ak≠(s_.2.2:Value).ownBlock∧ak≠gq) (.slice ac a5.length ae) a5)∧(w'.heap[ai]?=some (.cells #[.slice (some aH) aI.length aO] 28))∧(w'.heap[aK]?=some (.cells #[.slice none 0 0] 28))∧(w'.heap[ab]?=some (.cells #[.slice ac a5.length ae] 28))∧(w'.heap[gq]?=some (.cells #[.string jL,.bool ((aB aI dw).f1),.string ((aB aI dw).f2)] 43))∧(Below w.heap.size w w')) ?_ ?_;rotate_left
  ·intro wR;refine AL (i:=0) (j:=7) (Ni:=some 61) (yD:=some 68) YD YE rfl rfl rfl rfl (AO aP.out aC) (by decide) (by decide) (fun K hK=>?_) (fun K hK=>?_)
   ·skip
    refine Kd.A8 aS _ 43 ?hg (N:=61) ?hd (xs:=([]:List (aF))) (inner:=[]) (ok:=fun _=>True) (jG:=fun _=>True) ?hr ?hp (fun _ hk=>hk) trivial (Below.refl _ _) (Nat.le_refl _) (by simp) ?_;(case hd=>rfl);(case hg=>rfl);(case hr=>first|(go_simp;done)|(go_simp;rfl));(case hp=>exact (gu.none _ _));intro Ef ij yK hb mF mG;clear mF mG;(first|rw [← bv.out] at yK|(simp only [Int.reduceToNat] at yK;rw [← bv.out] at yK))
    obtain ⟨eX,af,a7,a8,a6,d_,xO,HB⟩:=p_ (Kd.jP (aN eX) (Kd.iY yK) hb) <| p_ (Kd.dR (Kd.wL (Kd.jQ yK (Kd.jl (aN eX))) (g:=gq) (o:=.cells #[.string jL,.bool ((aB aI dw).f1),.string ((aB aI dw).f2)] 43) (au d_)) (bU ay)) <| p_ (aU (au a7) hb) <| p_ (aU (au a8) hb) <| p_ (aU (au a6) hb) <| p_ (aU (au d_) hb) <| p_ (Kd.qP JY hb) <| a_ (dV ay hb);clear hb yK;refine hK.out _ _ ⟨(aQ a6.out 0).trans rfl,tK d_.out⟩ (fun hH=>?_);clear hK K;refine gY (some 61) ?_;refine AL (i:=5) (j:=7) (Ni:=some 66) (yD:=some 68) Yh Oe rfl rfl rfl rfl (AO aP.out aC) (by decide) (by decide) (fun K hK=>?_) (fun K hK=>?_)
    ·skip
     refine Kd.Dp aS (w0:=w) w.heap.size (by rfl) (.tmp 61) (.tmp 65) 26 43 (.agg #[(.string ⟨#[]⟩),(.bool false),(.string ⟨#[]⟩)]) 40 rfl underlying26 q_ rfl (by decide) (by omega) Ef dq b6 _ _ _ (fun ak=>some ak≠(.slice ac a5.length ae:Value).ownBlock∧ak≠gq) (fun _=>False) rfl rfl ?l7 ?aR (fun _ _ h=>h) (fun _ h=>h.elim) ?mX ?lZ ?l9 ?aL ?_;(case aR=>exact WO)
     (case lZ=>exact ay)
     (case mX=>exact ac_)
     (case l7=>exact (by (with_reducible repeat (first|apply Kd.bW|apply Kd.bY|apply Kd.bH));exact Kd.bF af.out (fun _ hk=>⟨hk.1.2,hk.2⟩)))
     (case l9=>exact (bU ay))
     (case aL=>have:=ct.out;omega)
     intro BM f8 ho hb hg hat;rw [← fE.out] at ho;have ji:=p_ (Kd.qh (ok:=(fun ak=>ak≠gq)) (aN eX) hg hat) <| p_ (iT (g:=ai) (o:=.cells #[.slice (some aH) aI.length aO] 28) (au a7) hg (Kd.fD af.out a7.out (by decide))) <| p_ (iT (g:=aK) (o:=.cells #[.slice none 0 0] 28) (au a8) hg (Kd.fD af.out a8.out (by decide))) <| p_ (iT (g:=ab) (o:=.cells #[.slice ac a5.length ae] 28) (au a6) hg (Kd.fD af.out a6.out (by decide))) <| p_ (iT (g:=gq) (o:=.cells #[.string jL,.bool ((aB aI dw).f1),.string ((aB aI dw).f2)] 43) (au d_) hg (Kd.sJ af.out (fun _ hk=>hk.2))) <| p_ (hb) <| p_ ((show Kd.C aS f8 ac b6.length b6 from by rw [bq.out];exact Kd.yx (m:=(a9:Int).toNat) ((Kd.dn (Kd.qh (ok:=(fun ak=>ak≠gq)) (aN eX) hg hat)).2.2) Rl.out)) <| a_ (ho);clear eX a7 a8 a6 d_ HB xO af;obtain ⟨eX,a7,a8,a6,d_,HB,xO,yC⟩:=ji;clear ho hb hg hat;refine hK.out _ _ ⟨(aQ a6.out 0).trans rfl,tK d_.out⟩ (fun hH=>?_);clear hK K;refine gY (some 66) ?_;refine iy (i:=7) (N:=some 68) Dx rfl rfl (lG aP.out aC) (by decide) (fun K hK=>?_);refine Kd.A8 aS _ 43 ?hg (N:=68) ?hd (xs:=([(⟨jL,((aB aI dw).f1),((aB aI dw).f2)⟩:aF)]:List (aF))) (inner:=[.string jL,.bool ((aB aI dw).f1),.string ((aB aI dw).f2)]) (ok:=fun _=>True) (jG:=fun _=>True) ?hr ?hp (fun _ hk=>hk) trivial (Below.refl _ _) (Nat.le_refl _) (by simp) ?_;(case hd=>rfl);(case hg=>rfl);(case hr=>first|(go_simp;done)|(go_simp;rfl));(case hp=>exact JX);intro xI iv E9 hb mF mG;clear mF mG;(first|rw [← bb.out] at E9|(simp only [Int.reduceToNat] at E9;rw [← bb.out] at E9))
     obtain ⟨eX,yC,sF,a7,a8,a6,d_,xO,HB⟩:=p_ (Kd.jP (aN eX) (Kd.iY E9) hb) <| p_ (Kd.jP (aN yC) (Kd.iY E9) hb) <| p_ (Kd.dR (Kd.wL (Kd.jQ (Kd.jQ E9 (Kd.jl (aN eX))) (Kd.jl (aN yC))) (g:=gq) (o:=.cells #[.string jL,.bool ((aB aI dw).f1),.string ((aB aI dw).f2)] 43) (au d_)) (bU ay)) <| p_ (aU (au a7) hb) <| p_ (aU (au a8) hb) <| p_ (aU (au a6) hb) <| p_ (aU (au d_) hb) <| p_ (Kd.qP JY hb) <| a_ (dV ay hb);clear hb E9;refine hK.out _ _ ⟨(aQ a6.out 0).trans rfl,tK d_.out⟩ (fun hH=>?_);clear hK K;refine gY (some 68) ?_;exact qN zS (wR (Ef,BM,xI) _ ⟨hH,(by (with_reducible repeat (first|apply Kd.bW|apply Kd.bY|apply Kd.bH));exact Kd.bF yC.out (fun _ hk=>⟨hk.2,⟨hk.1.1,hk.1.2⟩⟩)),(by (with_reducible repeat (first|apply Kd.bW|apply Kd.bY|apply Kd.bH));exact Kd.bF sF.out (fun _ hk=>⟨hk.1.2,⟨hk.1.1.2,hk.2⟩⟩)),ads,(au a7),(au a8),(au a6),(au d_),ay⟩)
    ·skip
     refine Kd.A8 aS _ 43 ?hg (N:=68) ?hd (xs:=([(⟨jL,((aB aI dw).f1),((aB aI dw).f2)⟩:aF)]:List (aF))) (inner:=[.string jL,.bool ((aB aI dw).f1),.string ((aB aI dw).f2)]) (ok:=fun _=>True) (jG:=fun _=>True) ?hr ?hp (fun _ hk=>hk) trivial (Below.refl _ _) (Nat.le_refl _) (by simp) ?_;(case hd=>rfl);(case hg=>rfl);(case hr=>first|(go_simp;done)|(go_simp;rfl));(case hp=>exact JX);intro xI f8 wW hb mF mG;clear mF mG;(first|rw [← bb.out] at wW|(simp only [Int.reduceToNat] at wW;rw [← bb.out] at wW))
     obtain ⟨eX,af,sF,a7,a8,a6,d_,xO,HB⟩:=p_ (Kd.jP (aN eX) (Kd.iY wW) hb) <| p_ (Kd.jP (aN af) (Kd.iY wW) hb) <| p_ (Kd.dR (Kd.wL (Kd.jQ (Kd.jQ wW (Kd.jl (aN eX))) (Kd.jl (aN af))) (g:=gq) (o:=.cells #[.string jL,.bool ((aB aI dw).f1),.string ((aB aI dw).f2)] 43) (au d_)) (bU ay)) <| p_ (aU (au a7) hb) <| p_ (aU (au a8) hb) <| p_ (aU (au a6) hb) <| p_ (aU (au d_) hb) <| p_ (Kd.qP JY hb) <| a_ (dV ay hb);clear hb wW;refine hK.out _ _ ⟨(aQ a6.out 0).trans rfl,tK d_.out⟩ (fun hH=>?_);clear hK K;refine gY (some 68) ?_;refine iy (i:=5) (N:=some 66) Dx rfl rfl (lG aP.out aC) (by decide) (fun K hK=>?_);refine Kd.Dp aS (w0:=w) w.heap.size (by rfl) (.tmp 61) (.tmp 65) 26 43 (.agg #[(.string ⟨#[]⟩),(.bool false),(.string ⟨#[]⟩)]) 40 rfl underlying26 q_ rfl (by decide) (by omega) Ef dq b6 _ _ _ (fun ak=>some ak≠(.slice ac a5.length ae:Value).ownBlock∧some ak≠(xI:Value).ownBlock∧ak≠gq) (fun _=>False) rfl rfl ?l7 ?aR (fun _ _ h=>h) (fun _ h=>h.elim) ?mX ?lZ ?l9 ?aL ?_;(case aR=>exact WO)
     (case lZ=>exact ay)
     (case mX=>exact Qo)
     (case l7=>exact (by (with_reducible repeat (first|apply Kd.bW|apply Kd.bY|apply Kd.bH));exact Kd.bF af.out (fun _ hk=>⟨hk.1.1.2,⟨hk.2,hk.1.2⟩⟩)))
     (case l9=>exact (bU ay))
     (case aL=>have:=ct.out;omega)
     intro BM fa ho hb hg hat;rw [← fE.out] at ho;have ji:=p_ (Kd.qh (ok:=(fun ak=>some ak≠(xI:Value).ownBlock∧ak≠gq)) Qv hg hat) <| p_ (iT (g:=ai) (o:=.cells #[.slice (some aH) aI.length aO] 28) (au a7) hg (Kd.fD af.out a7.out (by decide))) <| p_ (iT (g:=aK) (o:=.cells #[.slice none 0 0] 28) (au a8) hg (Kd.fD af.out a8.out (by decide))) <| p_ (iT (g:=ab) (o:=.cells #[.slice ac a5.length ae] 28) (au a6) hg (Kd.fD af.out a6.out (by decide))) <| p_ (iT (g:=gq) (o:=.cells #[.string jL,.bool ((aB aI dw).f1),.string ((aB aI dw).f2)] 43) (au d_) hg (Kd.sJ af.out (fun _ hk=>hk.1.2))) <| p_ (Kd.qh (ok:=(fun ak=>some ak≠(.slice ac a5.length ae:Value).ownBlock∧ak≠gq)) (by (with_reducible repeat (first|apply Kd.bW|apply Kd.bY|apply Kd.bH));exact Kd.bF sF.out (fun _ hk=>⟨⟨hk.1.1.2,hk.2⟩,hk.1.2⟩)) hg hat) <| p_ (hb) <| p_ ((show Kd.C aS fa ac b6.length b6 from by rw [bq.out];exact Kd.yx (m:=(a9:Int).toNat) ((Kd.dn (Kd.qh (ok:=(fun ak=>some ak≠(xI:Value).ownBlock∧ak≠gq)) Qv hg hat)).2.2) Rl.out)) <| a_ (ho);clear eX a7 a8 a6 d_ sF HB xO af;obtain ⟨eX,a7,a8,a6,d_,sF,HB,xO,yC⟩:=ji;clear ho hb hg hat;refine hK.out _ _ ⟨(aQ a6.out 0).trans rfl,tK d_.out⟩ (fun hH=>?_);clear hK K;refine gY (some 66) ?_;exact qN zS (wR (Ef,BM,xI) _ ⟨hH,WZ,adu,Qx,(au a7),(au a8),(au a6),(au d_),ay⟩)
   ·skip
    refine Kd.A8 aS _ 43 ?hg (N:=68) ?hd (xs:=([(⟨jL,((aB aI dw).f1),((aB aI dw).f2)⟩:aF)]:List (aF))) (inner:=[.string jL,.bool ((aB aI dw).f1),.string ((aB aI dw).f2)]) (ok:=fun _=>True) (jG:=fun _=>True) ?hr ?hp (fun _ hk=>hk) trivial (Below.refl _ _) (Nat.le_refl _) (by simp) ?_;(case hd=>rfl);(case hg=>rfl);(case hr=>first|(go_simp;done)|(go_simp;rfl));(case hp=>exact JX);intro xI ij yK hb mF mG;clear mF mG;(first|rw [← bb.out] at yK|(simp only [Int.reduceToNat] at yK;rw [← bb.out] at yK))
    obtain ⟨eX,sF,a7,a8,a6,d_,xO,HB⟩:=p_ (Kd.jP (aN eX) (Kd.iY yK) hb) <| p_ (Kd.dR (Kd.wL (Kd.jQ yK (Kd.jl (aN eX))) (g:=gq) (o:=.cells #[.string jL,.bool ((aB aI dw).f1),.string ((aB aI dw).f2)] 43) (au d_)) (bU ay)) <| p_ (aU (au a7) hb) <| p_ (aU (au a8) hb) <| p_ (aU (au a6) hb) <| p_ (aU (au d_) hb) <| p_ (Kd.qP JY hb) <| a_ (dV ay hb);clear hb yK;refine hK.out _ _ ⟨(aQ a6.out 0).trans rfl,tK d_.out⟩ (fun hH=>?_);clear hK K;refine gY (some 68) ?_;refine iy (i:=0) (N:=some 61) Oe rfl rfl (lG aP.out aC) (by decide) (fun K hK=>?_);refine Kd.A8 aS _ 43 ?hg (N:=61) ?hd (xs:=([]:List (aF))) (inner:=[]) (ok:=fun _=>True) (jG:=fun _=>True) ?hr ?hp (fun _ hk=>hk) trivial (Below.refl _ _) (Nat.le_refl _) (by simp) ?_;(case hd=>rfl);(case hg=>rfl);(case hr=>first|(go_simp;done)|(go_simp;rfl));(case hp=>exact (gu.none _ _));intro Ef f8 wW hb mF mG;clear mF mG;(first|rw [← bv.out] at wW|(simp only [Int.reduceToNat] at wW;rw [← bv.out] at wW))
    obtain ⟨eX,sF,af,a7,a8,a6,d_,xO,HB⟩:=p_ (Kd.jP (aN eX) (Kd.iY wW) hb) <| p_ (Kd.jP (aN sF) (Kd.iY wW) hb) <| p_ (Kd.dR (Kd.wL (Kd.jQ (Kd.jQ wW (Kd.jl (aN eX))) (Kd.jl (aN sF))) (g:=gq) (o:=.cells #[.string jL,.bool ((aB aI dw).f1),.string ((aB aI dw).f2)] 43) (au d_)) (bU ay)) <| p_ (aU (au a7) hb) <| p_ (aU (au a8) hb) <| p_ (aU (au a6) hb) <| p_ (aU (au d_) hb) <| p_ (Kd.qP JY hb) <| a_ (dV ay hb);clear hb wW;refine hK.out _ _ ⟨(aQ a6.out 0).trans rfl,tK d_.out⟩ (fun hH=>?_);clear hK K;refine gY (some 61) ?_;refine iy (i:=5) (N:=some 66) Dx rfl rfl (lG aP.out aC) (by decide) (fun K hK=>?_);refine Kd.Dp aS (w0:=w) w.heap.size (by rfl) (.tmp 61) (.tmp 65) 26 43 (.agg #[(.string ⟨#[]⟩),(.bool false),(.string ⟨#[]⟩)]) 40 rfl underlying26 q_ rfl (by decide) (by omega) Ef dq b6 _ _ _ (fun ak=>some ak≠(.slice ac a5.length ae:Value).ownBlock∧some ak≠(xI:Value).ownBlock∧ak≠gq) (fun _=>False) rfl rfl ?l7 ?aR (fun _ _ h=>h) (fun _ h=>h.elim) ?mX ?lZ ?l9 ?aL ?_;(case aR=>exact WO)
    (case lZ=>exact ay)
    (case mX=>exact Qo)
    (case l7=>exact (by (with_reducible repeat (first|apply Kd.bW|apply Kd.bY|apply Kd.bH));exact Kd.bF af.out (fun _ hk=>⟨hk.1.1.2,⟨hk.1.2,hk.2⟩⟩)))
    (case l9=>exact (bU ay))
    (case aL=>have:=ct.out;omega)
    intro BM fa ho hb hg hat;rw [← fE.out] at ho;have ji:=p_ (Kd.qh (ok:=(fun ak=>some ak≠(xI:Value).ownBlock∧ak≠gq)) Qw hg hat) <| p_ (iT (g:=ai) (o:=.cells #[.slice (some aH) aI.length aO] 28) (au a7) hg (Kd.fD af.out a7.out (by decide))) <| p_ (iT (g:=aK) (o:=.cells #[.slice none 0 0] 28) (au a8) hg (Kd.fD af.out a8.out (by decide))) <| p_ (iT (g:=ab) (o:=.cells #[.slice ac a5.length ae] 28) (au a6) hg (Kd.fD af.out a6.out (by decide))) <| p_ (iT (g:=gq) (o:=.cells #[.string jL,.bool ((aB aI dw).f1),.string ((aB aI dw).f2)] 43) (au d_) hg (Kd.sJ af.out (fun _ hk=>hk.2))) <| p_ (Kd.qh (ok:=(fun ak=>some ak≠(.slice ac a5.length ae:Value).ownBlock∧ak≠gq)) (by (with_reducible repeat (first|apply Kd.bW|apply Kd.bY|apply Kd.bH));exact Kd.bF sF.out (fun _ hk=>⟨⟨hk.1.1.2,hk.1.2⟩,hk.2⟩)) hg hat) <| p_ (hb) <| p_ ((show Kd.C aS fa ac b6.length b6 from by rw [bq.out];exact Kd.yx (m:=(a9:Int).toNat) ((Kd.dn (Kd.qh (ok:=(fun ak=>some ak≠(xI:Value).ownBlock∧ak≠gq)) Qw hg hat)).2.2) Rl.out)) <| a_ (ho);clear eX a7 a8 a6 d_ sF HB xO af;obtain ⟨eX,a7,a8,a6,d_,sF,HB,xO,yC⟩:=ji;clear ho hb hg hat;refine hK.out _ _ ⟨(aQ a6.out 0).trans rfl,tK d_.out⟩ (fun hH=>?_);clear hK K;refine gY (some 66) ?_;exact qN zS (wR (Ef,BM,xI) _ ⟨hH,WZ,adu,Qx,(au a7),(au a8),(au a6),(au d_),ay⟩)
  rintro ⟨Ef,BM,xI⟩ cl ⟨kD,iR,iL,gJ,iP,jm,jU,jK,jY⟩;obtain ⟨yC,sF,eX,a7,a8,a6,d_,HB⟩:=bT (⟨iR⟩:aA (Kd.R aS 43 cl w.heap.size (fun ak=>some ak≠(xI:Value).ownBlock∧some ak≠(.slice ac a5.length ae:Value).ownBlock∧ak≠gq) BM dr)) <| bT (⟨iL⟩:aA (Kd.R aS 43 cl w.heap.size (fun ak=>some ak≠(BM:Value).ownBlock∧some ak≠(.slice ac a5.length ae:Value).ownBlock∧ak≠gq) xI dL)) <| bT (⟨gJ⟩:aA (Kd.R aS 43 cl w.heap.size (fun ak=>some ak≠(BM:Value).ownBlock∧some ak≠(xI:Value).ownBlock∧ak≠gq) (.slice ac a5.length ae) a5)) <| bT (⟨iP⟩:aA (cl.heap[ai]?=some (.cells #[.slice (some aH) aI.length aO] 28))) <| bT (⟨jm⟩:aA (cl.heap[aK]?=some (.cells #[.slice none 0 0] 28))) <| bT (⟨jU⟩:aA (cl.heap[ab]?=some (.cells #[.slice ac a5.length ae] 28))) <| bT (⟨jK⟩:aA (cl.heap[gq]?=some (.cells #[.string jL,.bool ((aB aI dw).f1),.string ((aB aI dw).f2)] 43))) <| (⟨jY⟩:aA (Below w.heap.size w cl));have hH:jE cl ab (.slice ac a5.length ae) <| Di cl gq (.string jL) (.bool ((aB aI dw).f1)) (.string ((aB aI dw).f2)):=kD;obtain ⟨ch,ci,en⟩:=Kd.dN sF.out;(first|subst en|(injection en with eu iE eF;have iJ:=eu.symm;have iK:=eF.symm;clear eu iE eF;subst iJ;subst iK))
  refine qN (a':=?_) ?_ ?_;rotate_left
  ·simp only [lK,Act.put,List.setIfInBounds_toArray,List.set_cons_zero,List.set_cons_succ]
   rfl
  refine iy (i:=8) (N:=some 69) Yi rfl rfl (lG aP.out aC) (by decide) (fun K hK=>?_);refine Kd.Dp aS (w0:=w) w.heap.size (by rfl) (.tmp 66) (.tmp 68) 26 43 (.agg #[(.string ⟨#[]⟩),(.bool false),(.string ⟨#[]⟩)]) 40 rfl underlying26 q_ rfl (by decide) (by omega) BM dr dL _ _ _ (fun ak=>some ak≠(.slice ac a5.length ae:Value).ownBlock∧some ak≠(.slice ch dL.length ci:Value).ownBlock∧ak≠gq) (fun _=>False) rfl rfl ?l7 ?aR (fun _ _ h=>h) (fun _ h=>h.elim) ?mX ?lZ ?l9 ?aL ?_;(case aR=>repeat (first|exact (Kd.dn sF.out).2.2|(with_reducible refine Kd.kM ?_ _)|(with_reducible refine Kd.kR ?_ _)|(with_reducible refine Kd.kQ ?_)))
  (case lZ=>exact ay)
  (case mX=>exact Qo)
  (case l7=>exact WZ)
  (case l9=>exact (bU ay))
  (case aL=>have:=eh.out;omega)
  intro aoS DK ho hb hg hat;rw [← ej.out] at ho;have ji:=p_ (Kd.qh (ok:=(fun ak=>some ak≠(.slice ch dL.length ci:Value).ownBlock∧ak≠gq)) adr hg hat) <| p_ (iT (g:=ai) (o:=.cells #[.slice (some aH) aI.length aO] 28) (au a7) hg (Kd.fD yC.out a7.out (by decide))) <| p_ (iT (g:=aK) (o:=.cells #[.slice none 0 0] 28) (au a8) hg (Kd.fD yC.out a8.out (by decide))) <| p_ (iT (g:=ab) (o:=.cells #[.slice ac a5.length ae] 28) (au a6) hg (Kd.fD yC.out a6.out (by decide))) <| p_ (iT (g:=gq) (o:=.cells #[.string jL,.bool ((aB aI dw).f1),.string ((aB aI dw).f2)] 43) (au d_) hg (Kd.sJ yC.out (fun _ hk=>hk.2.2))) <| p_ (Kd.qh (ok:=(fun ak=>some ak≠(.slice ac a5.length ae:Value).ownBlock∧ak≠gq)) (by (with_reducible repeat (first|apply Kd.bW|apply Kd.bY|apply Kd.bH));exact Kd.bF sF.out (fun _ hk=>⟨⟨hk.2.1,hk.2.2⟩,hk.1⟩)) hg hat) <| p_ (hb) <| a_ (ho);clear eX a7 a8 a6 d_ sF HB yC;obtain ⟨eX,a7,a8,a6,d_,sF,HB,bc⟩:=ji;clear ho hb hg hat;refine hK.out _ _ ⟨(aQ a6.out 0).trans rfl,tK d_.out⟩ (fun hH=>?_);clear hK K;refine gY (some 69) ?_;refine dF 9 11 Yj aP ?_;refine jd (kC aP.out aC) ?_;obtain ⟨aw,ax⟩:=gy aq ap;have aE2:=bZ a6.out;have fb:(a9:Int)≤((a5.length:Int):Int):=aX aY;obtain ⟨aCv,aaH,_,aaT,_⟩:=info_parts q_;have VF:a5.length≤ae:=(Kd.dn eX.out).2.1;have Zp:Kd.C aS _ ac a5.length a5:=(Kd.dn eX.out).2.2;have fc:(0:Int)≤(a9:Int):=aX aY;have agJ:=Y6 (P:=Tryz.prog) 26 43 .i64 underlying26 aaH 3 aaT ac a5.length ae a9 fc fb;have LQ:=Kd.Np (m:=(a9:Int).toNat) (c:=ae) Zp (by omega) VF;obtain ⟨gz,Ov⟩:∃ A1,A1=(if ae=(a9:Int).toNat then ac else (ac:Option Addr).map (·.add ((a9:Int).toNat * 3))):=⟨_,rfl⟩;obtain ⟨ik,hc99⟩:∃ c1,c1=ae - (a9:Int).toNat:=⟨_,rfl⟩;have d7:bh.length=a5.length - (a9:Int).toNat:=(by rw [cv.out,List.length_drop] <;> omega);rw [show (a5).drop (a9:Int).toNat=bh from cv.out.symm] at LQ;replace LQ:Kd.C aS _ gz bh.length bh:=(by rw [Ov];exact LQ);rw [← d7,← Ov,← hc99] at agJ;have bw:=m_ LQ;have hs:=m_ (show bh.length≤ik from by rw [d7,hc99];exact Nat.sub_le_sub_right VF _);clear LQ Zp VF aaH aaT hc99;have aqh:=m_ d7;have aeN:=m_ Ov;clear d7 Ov;have aeQ:=m_ (show (a9:Int).toNat≤a5.length from by omega);replace fb:=eq_true fb;try go_wp2_with (first|((with_reducible refine zu (b:=.append) (xs:=#[.tmp 70,.tmp 74]) rfl ?_);at_builtin;refine Kd.GK aS (w0:=w) w.heap.size rfl (.tmp 70) (.tmp 74) 26 43 (.agg #[(.string ⟨#[]⟩),(.bool false),(.string ⟨#[]⟩)]) 40 rfl underlying26 q_ rfl (by decide) (by omega) aoS ei bh _ _ _ (fun ak=>some ak≠(.slice ac a5.length ae:Value).ownBlock∧some ak≠(.slice ch dL.length ci:Value).ownBlock∧ak≠gq) (fun _=>False) rfl rfl ?l7 ?aR (fun _ _ h=>h) (fun _ h=>h.elim) ?mX ?lZ ?l9 ?aL ?_;(case aR=>repeat (first|exact (by repeat (first|(with_reducible exact bw.out)|(with_reducible refine Kd.kM ?_ _)|(with_reducible refine Kd.kR ?_ _)|(with_reducible refine Kd.kQ ?_)|exact bw.out))|(with_reducible refine Kd.kM ?_ _)|(with_reducible refine Kd.kR ?_ _)|(with_reducible refine Kd.kQ ?_)));(case lZ=>exact ay);(case mX=>exact Qo);(case l7=>exact (aN bc));(case l9=>exact (bU ay));(case aL=>have:=ek.out;omega);intro aDs fd ho hb hg hat;rw [← el.out] at ho;have ji:=p_ (Kd.qh (ok:=(fun ak=>some ak≠(.slice ch dL.length ci:Value).ownBlock∧ak≠gq)) (aN eX) hg hat) <| p_ (iT (g:=ai) (o:=.cells #[.slice (some aH) aI.length aO] 28) (au a7) hg (Kd.fD bc.out a7.out (by decide))) <| p_ (iT (g:=aK) (o:=.cells #[.slice none 0 0] 28) (au a8) hg (Kd.fD bc.out a8.out (by decide))) <| p_ (iT (g:=ab) (o:=.cells #[.slice ac a5.length ae] 28) (au a6) hg (Kd.fD bc.out a6.out (by decide))) <| p_ (iT (g:=gq) (o:=.cells #[.string jL,.bool ((aB aI dw).f1),.string ((aB aI dw).f2)] 43) (au d_) hg (Kd.sJ bc.out (fun _ hk=>hk.2.2))) <| p_ (Kd.qh (ok:=(fun ak=>some ak≠(.slice ac a5.length ae:Value).ownBlock∧ak≠gq)) (aN sF) hg hat) <| p_ (hb) <| p_ ((show Kd.C aS fd gz bh.length bh from by rw [cv.out,aeN.out];exact Kd.Np (m:=(a9:Int).toNat) (c:=ae) ((Kd.dn (Kd.qh (ok:=(fun ak=>some ak≠(.slice ch dL.length ci:Value).ownBlock∧ak≠gq)) (aN eX) hg hat)).2.2) aeQ.out ((Kd.dn (Kd.qh (ok:=(fun ak=>some ak≠(.slice ch dL.length ci:Value).ownBlock∧ak≠gq)) (aN eX) hg hat)).2.1))) <| a_ (ho);clear eX a7 a8 a6 d_ sF HB bw bc;obtain ⟨eX,a7,a8,a6,d_,sF,HB,bw,dl⟩:=ji;clear ho hb hg hat;obtain ⟨eo,ep,eq⟩:=Kd.dN dl.out;subst eq;have aD9:=bZ a6.out))
  go_roundg k4
  case measure=>have:=gG.out;have:=Gs.out;have:=Nr.out;have:=Nu.out;omega
  case rel=>exact ⟨(wrap64 (dw+1)),(dt),(.slice eo dt.length ep),bC,H',⟨WV⟩,⟨(by (with_reducible repeat (first|apply Kd.bW|apply Kd.bY|apply Kd.bH));exact Kd.bF (aJ (Kd.bV dl.out a6.out (by decide))) (fun _ hk=>trivial))⟩,⟨bf⟩,⟨bf⟩,⟨bf⟩,⟨ay⟩⟩
 obtain ⟨hy,H⟩:=gI H;have er:=m_ H;clear H;try go_wp2
 obtain ⟨eX,a7,a8,a6,d_,HB⟩:=p_ (Kd.bH eX.out) <| yG a7 a8 a6 d_ HB;obtain ⟨nN,iO,es⟩:=Kd.dN eX.out;(first|subst es|(injection es with eu iE eF;have iJ:=eu.symm;have iK:=eF.symm;clear eu iE eF;subst iJ;subst iK))
 have dv:0≤(a9:Int):=aX aY;have lC:a9 < (a5.length:Int):=aX aY;obtain ⟨aa,fe,bi,bj,bl⟩:=jV (Kd.dn eX.out).2.2 a9 dv lC;cases fe;replace dv:=eq_true dv;replace lC:=eq_true lC;refine iU (n:=16) (S:=fun w'=>jE w' ab (.slice (some aa) a5.length iO) <| Nl w' gq (.string jL) (.bool ((aB aI dw).f1)) (.string ((aB aI dw).f2)) <| uS w' (aa.add ((a9).toNat * 3)) (.string ((aB a5 a9).f0)) (.bool ((aB a5 a9).f1)) (.string ((aB a5 a9).f2))) (ds:=[]) RN aC rfl rfl ⟨(aQ a6.out 0).trans rfl,NY d_.out ⟨bi,bj,bl⟩⟩ (fun hH=>?_);refine kF jf.MR jf.KP (fun aP fK=>?_);generalize wr.drew=il at eX a7 a8 a6 d_ HB bi bj bl hH ⊢;refine dF 0 43 Ym aP ?_;refine dF 1 44 Yn aP ?_;refine j_ 2 45 Yo aP fK hH ?_;refine dF 3 46 Yp aP ?_;refine dF 4 47 Yq aP ?_;refine dF 5 48 Yr aP ?_;refine dF 6 49 RP aP ?_;refine dF 8 51 #[aj,aj,aj,aj,aj,aj,aj,F_,aj,F_,F_,F_,F_,F_,F_,F_] aP ?_;refine dF 12 55 #[aj,aj,aj,aj,aj,aj,aj,F_,aj,F_,F_,F_,aj,F_,F_,F_] aP ?_;refine j_ 7 50 #[aj,aj,aj,aj,aj,aj,aj,aj,aj,F_,F_,F_,aj,F_,F_,F_] aP fK hH ?_;refine dF 9 52 #[aj,aj,aj,aj,aj,aj,aj,aj,aj,aj,F_,F_,aj,F_,F_,F_] aP ?_;refine dF 10 53 #[aj,aj,aj,aj,aj,aj,aj,aj,aj,aj,aj,F_,aj,F_,F_,F_] aP ?_;refine j_ 11 54 RQ aP fK hH ?_;refine j_ 13 56 Hf aP fK hH ?_;refine dF 14 57 RS aP ?_;refine dF 15 58 RU aP ?_;refine jd (kC aP.out aC) ?_;go_upto_if 58 with (fail)
 (try clear bD am cp az cr al bp co cq bo)
 (try clear bi bj bl)
 obtain ⟨H⟩:=er;revert H;refine eU (fun e6 H=>?_) fun e6 H=>?_;rotate_left
 ·have b0:(Op.bytesLess jL.toList (((aB a5 a9).f0).toList))=false:=by simpa using e6
  clear e6;(first|rw [b0]|(simp only [aV,aZ];rw [b0])|rw [Ac,b0]|rw [Dv,b0]|skip)
  have H':=m_ H;clear H;go_wp2
  go_roundg k4
  case measure=>have:=gG.out;have:=Gs.out;have:=Nr.out;have:=Nu.out;omega
  case rel=>exact ⟨(wrap64 (a9+1)),bC,H',⟨WV⟩,⟨(aN eX)⟩,⟨(au a7)⟩,⟨(au a8)⟩,⟨(au a6)⟩,⟨(au d_)⟩,⟨ay⟩⟩
 have b0:(Op.bytesLess jL.toList (((aB a5 a9).f0).toList))=true:=e6;clear e6;(first|rw [b0]|(simp only [aV,aZ];rw [b0])|rw [Ac,b0]|rw [Dv,b0]|skip)
 obtain ⟨dx,bx,H⟩:=uX H;have i1:=eq_true (aX aY:0≤a9);obtain ⟨i2,i3,H⟩:=jF H;obtain ⟨b7,br,H⟩:=uX H;obtain ⟨i4,H⟩:=lT H;have cx:=m_ i4;clear i4;obtain ⟨dy,cy,H⟩:=uX H;obtain ⟨bm,bd,H⟩:=uX H;obtain ⟨i5,H⟩:=lT H;have et:=m_ i5;clear i5;obtain ⟨tN,ev,H⟩:=uX H;have i6:=eq_true (aX aY:0≤a9);have i7:=eq_true (aX aY:a9≤(a5.length:Int));obtain ⟨fG,cz,H⟩:=uX H;obtain ⟨i8,H⟩:=lT H;have ew:=m_ i8;clear i8;obtain ⟨dz,d0⟩:∃ y_:List (aF),y_=(tN++fG):=⟨_,rfl⟩;rw [← d0] at H;have ex:=m_ d0;clear d0;have H':=m_ H;clear H;try go_wp2
 obtain ⟨eX,a7,a8,a6,d_,HB⟩:=p_ (Kd.bH eX.out) <| yG a7 a8 a6 d_ HB;have fg:(a9:Int)≤((a5.length:Int):Int):=aX aY;obtain ⟨aCs,aaE,_,alQ,_⟩:=info_parts q_;have aaP:a5.length≤iO:=(Kd.dn eX.out).2.1;have Zm:Kd.C aS _ (some aa) a5.length a5:=(Kd.dn eX.out).2.2;have agG:=EP (P:=Tryz.prog) 26 43 .i64 underlying26 aaE (some aa) a5.length iO a9 (aX aY) fg aaP;have VB:=Kd.yx (m:=(a9:Int).toNat) Zm (by omega);have e0:b7.length=(a9:Int).toNat:=(by rw [br.out,List.length_take];omega);rw [← br.out] at VB;rw [← e0] at agG;have xM:=m_ VB;have i9:=m_ (show b7.length≤iO from by omega);clear VB Zm aaP aaE alQ;have aqe:=m_ e0;clear e0;have Rk:=m_ (show (a9:Int).toNat≤a5.length from by omega);replace fg:=eq_true fg;refine iU (n:=10) (S:=fun w'=>jE w' ab (.slice (some aa) a5.length iO) <| Di w' gq (.string jL) (.bool ((aB aI dw).f1)) (.string ((aB aI dw).f2))) (ds:=[]) RV aC rfl rfl ⟨(aQ a6.out 0).trans rfl,tK d_.out⟩ (fun hH=>?_);refine kF jf.acS jf.X7 (fun aP fK=>?_);generalize il.drew=ix at eX a7 a8 a6 d_ HB xM hH ⊢;refine dF 1 62 Yy aP ?_;refine dF 3 64 Yz aP ?_;refine j_ 2 63 YA aP fK hH ?_;refine dF 4 65 YB aP ?_;refine j_ 6 67 YC aP fK hH ?_;refine FH (σ:=Value × Value × Value) 2 Dx (fun s_=>[(61,s_.1),(66,s_.2.1),(68,s_.2.2)]) (fun s_ w'=>(jE w' ab (.slice (some aa) a5.length iO) <| Di w' gq (.string jL) (.bool ((aB aI dw).f1)) (.string ((aB aI dw).f2)))∧(Kd.R aS 43 w' w.heap.size (fun ak=>some ak≠(s_.2.2:Value).ownBlock∧some ak≠(.slice (some aa) a5.length iO:Value).ownBlock∧ak≠gq) s_.2.1 dy)∧(Kd.R aS 43 w' w.heap.size (fun ak=>some ak≠(s_.2.1:Value).ownBlock∧some ak≠(.slice (some aa) a5.length iO:Value).ownBlock∧ak≠gq) s_.2.2 bm)∧(Kd.R aS 43 w' w.heap.size (fun ak=>some ak≠(s_.2.1:Value).ownBlock∧some ak≠(s_.2.2:Value).ownBlock∧ak≠gq) (.slice (some aa) a5.length iO) a5)∧(w'.heap[ai]?=some (.cells #[.slice (some aH) aI.length aO] 28))∧(w'.heap[aK]?=some (.cells #[.slice none 0 0] 28))∧(w'.heap[ab]?=some (.cells #[.slice (some aa) a5.length iO] 28))∧(w'.heap[gq]?=some (.cells #[.string jL,.bool ((aB aI dw).f1),.string ((aB aI dw).f2)] 43))∧(Below w.heap.size w w')) ?_ ?_;rotate_left
 ·intro wR;refine AL (i:=0) (j:=7) (Ni:=some 61) (yD:=some 68) YD YE rfl rfl rfl rfl (AO aP.out aC) (by decide) (by decide) (fun K hK=>?_) (fun K hK=>?_)
  ·skip
   refine Kd.A8 aS _ 43 ?hg (N:=61) ?hd (xs:=([]:List (aF))) (inner:=[]) (ok:=fun _=>True) (jG:=fun _=>True) ?hr ?hp (fun _ hk=>hk) trivial (Below.refl _ _) (Nat.le_refl _) (by simp) ?_;(case hd=>rfl);(case hg=>rfl);(case hr=>first|(go_simp;done)|(go_simp;rfl));(case hp=>exact (gu.none _ _));intro Ee im yJ hb mF mG;clear mF mG;(first|rw [← bx.out] at yJ|(simp only [Int.reduceToNat] at yJ;rw [← bx.out] at yJ))
   obtain ⟨eX,ag,a7,a8,a6,d_,xM,HB⟩:=p_ (Kd.jP (aN eX) (Kd.iY yJ) hb) <| p_ (Kd.dR (Kd.wL (Kd.jQ yJ (Kd.jl (aN eX))) (g:=gq) (o:=.cells #[.string jL,.bool ((aB aI dw).f1),.string ((aB aI dw).f2)] 43) (au d_)) (bU ay)) <| p_ (aU (au a7) hb) <| p_ (aU (au a8) hb) <| p_ (aU (au a6) hb) <| p_ (aU (au d_) hb) <| p_ (Kd.qP JZ hb) <| a_ (dV ay hb);clear hb yJ;refine hK.out _ _ ⟨(aQ a6.out 0).trans rfl,tK d_.out⟩ (fun hH=>?_);clear hK K;refine gY (some 61) ?_;refine AL (i:=5) (j:=7) (Ni:=some 66) (yD:=some 68) Yh Oe rfl rfl rfl rfl (AO aP.out aC) (by decide) (by decide) (fun K hK=>?_) (fun K hK=>?_)
   ·skip
    refine Kd.Dp aS (w0:=w) w.heap.size (by rfl) (.tmp 61) (.tmp 65) 26 43 (.agg #[(.string ⟨#[]⟩),(.bool false),(.string ⟨#[]⟩)]) 40 rfl underlying26 q_ rfl (by decide) (by omega) Ee dx b7 _ _ _ (fun ak=>some ak≠(.slice (some aa) a5.length iO:Value).ownBlock∧ak≠gq) (fun _=>False) rfl rfl ?l7 ?aR (fun _ _ h=>h) (fun _ h=>h.elim) ?mX ?lZ ?l9 ?aL ?_;(case aR=>exact WM)
    (case lZ=>exact ay)
    (case mX=>exact ac_)
    (case l7=>exact (by (with_reducible repeat (first|apply Kd.bW|apply Kd.bY|apply Kd.bH));exact Kd.bF ag.out (fun _ hk=>⟨hk.1.2,hk.2⟩)))
    (case l9=>exact (bU ay))
    (case aL=>have:=cx.out;omega)
    intro BL fh ho hb hg hat;rw [← cy.out] at ho;have ji:=p_ (Kd.qh (ok:=(fun ak=>ak≠gq)) (aN eX) hg hat) <| p_ (iT (g:=ai) (o:=.cells #[.slice (some aH) aI.length aO] 28) (au a7) hg (Kd.fD ag.out a7.out (by decide))) <| p_ (iT (g:=aK) (o:=.cells #[.slice none 0 0] 28) (au a8) hg (Kd.fD ag.out a8.out (by decide))) <| p_ (iT (g:=ab) (o:=.cells #[.slice (some aa) a5.length iO] 28) (au a6) hg (Kd.fD ag.out a6.out (by decide))) <| p_ (iT (g:=gq) (o:=.cells #[.string jL,.bool ((aB aI dw).f1),.string ((aB aI dw).f2)] 43) (au d_) hg (Kd.sJ ag.out (fun _ hk=>hk.2))) <| p_ (hb) <| p_ ((show Kd.C aS fh (some aa) b7.length b7 from by rw [br.out];exact Kd.yx (m:=(a9:Int).toNat) ((Kd.dn (Kd.qh (ok:=(fun ak=>ak≠gq)) (aN eX) hg hat)).2.2) Rk.out)) <| a_ (ho);clear eX a7 a8 a6 d_ HB xM ag;obtain ⟨eX,a7,a8,a6,d_,HB,xM,yB⟩:=ji;clear ho hb hg hat;refine hK.out _ _ ⟨(aQ a6.out 0).trans rfl,tK d_.out⟩ (fun hH=>?_);clear hK K;refine gY (some 66) ?_;refine iy (i:=7) (N:=some 68) Dx rfl rfl (lG aP.out aC) (by decide) (fun K hK=>?_);refine Kd.A8 aS _ 43 ?hg (N:=68) ?hd (xs:=([(⟨jL,((aB aI dw).f1),((aB aI dw).f2)⟩:aF)]:List (aF))) (inner:=[.string jL,.bool ((aB aI dw).f1),.string ((aB aI dw).f2)]) (ok:=fun _=>True) (jG:=fun _=>True) ?hr ?hp (fun _ hk=>hk) trivial (Below.refl _ _) (Nat.le_refl _) (by simp) ?_;(case hd=>rfl);(case hg=>rfl);(case hr=>first|(go_simp;done)|(go_simp;rfl));(case hp=>exact JX);intro xH tq E8 hb mF mG;clear mF mG;(first|rw [← bd.out] at E8|(simp only [Int.reduceToNat] at E8;rw [← bd.out] at E8))
    obtain ⟨eX,yB,sD,a7,a8,a6,d_,xM,HB⟩:=p_ (Kd.jP (aN eX) (Kd.iY E8) hb) <| p_ (Kd.jP (aN yB) (Kd.iY E8) hb) <| p_ (Kd.dR (Kd.wL (Kd.jQ (Kd.jQ E8 (Kd.jl (aN eX))) (Kd.jl (aN yB))) (g:=gq) (o:=.cells #[.string jL,.bool ((aB aI dw).f1),.string ((aB aI dw).f2)] 43) (au d_)) (bU ay)) <| p_ (aU (au a7) hb) <| p_ (aU (au a8) hb) <| p_ (aU (au a6) hb) <| p_ (aU (au d_) hb) <| p_ (Kd.qP JZ hb) <| a_ (dV ay hb);clear hb E8;refine hK.out _ _ ⟨(aQ a6.out 0).trans rfl,tK d_.out⟩ (fun hH=>?_);clear hK K;refine gY (some 68) ?_;exact qN zS (wR (Ee,BL,xH) _ ⟨hH,(by (with_reducible repeat (first|apply Kd.bW|apply Kd.bY|apply Kd.bH));exact Kd.bF yB.out (fun _ hk=>⟨hk.2,⟨hk.1.1,hk.1.2⟩⟩)),(by (with_reducible repeat (first|apply Kd.bW|apply Kd.bY|apply Kd.bH));exact Kd.bF sD.out (fun _ hk=>⟨hk.1.2,⟨hk.1.1.2,hk.2⟩⟩)),ads,(au a7),(au a8),(au a6),(au d_),ay⟩)
   ·skip
    refine Kd.A8 aS _ 43 ?hg (N:=68) ?hd (xs:=([(⟨jL,((aB aI dw).f1),((aB aI dw).f2)⟩:aF)]:List (aF))) (inner:=[.string jL,.bool ((aB aI dw).f1),.string ((aB aI dw).f2)]) (ok:=fun _=>True) (jG:=fun _=>True) ?hr ?hp (fun _ hk=>hk) trivial (Below.refl _ _) (Nat.le_refl _) (by simp) ?_;(case hd=>rfl);(case hg=>rfl);(case hr=>first|(go_simp;done)|(go_simp;rfl));(case hp=>exact JX);intro xH fh wV hb mF mG;clear mF mG;(first|rw [← bd.out] at wV|(simp only [Int.reduceToNat] at wV;rw [← bd.out] at wV))
    obtain ⟨eX,ag,sD,a7,a8,a6,d_,xM,HB⟩:=p_ (Kd.jP (aN eX) (Kd.iY wV) hb) <| p_ (Kd.jP (aN ag) (Kd.iY wV) hb) <| p_ (Kd.dR (Kd.wL (Kd.jQ (Kd.jQ wV (Kd.jl (aN eX))) (Kd.jl (aN ag))) (g:=gq) (o:=.cells #[.string jL,.bool ((aB aI dw).f1),.string ((aB aI dw).f2)] 43) (au d_)) (bU ay)) <| p_ (aU (au a7) hb) <| p_ (aU (au a8) hb) <| p_ (aU (au a6) hb) <| p_ (aU (au d_) hb) <| p_ (Kd.qP JZ hb) <| a_ (dV ay hb);clear hb wV;refine hK.out _ _ ⟨(aQ a6.out 0).trans rfl,tK d_.out⟩ (fun hH=>?_);clear hK K;refine gY (some 68) ?_;refine iy (i:=5) (N:=some 66) Dx rfl rfl (lG aP.out aC) (by decide) (fun K hK=>?_);refine Kd.Dp aS (w0:=w) w.heap.size (by rfl) (.tmp 61) (.tmp 65) 26 43 (.agg #[(.string ⟨#[]⟩),(.bool false),(.string ⟨#[]⟩)]) 40 rfl underlying26 q_ rfl (by decide) (by omega) Ee dx b7 _ _ _ (fun ak=>some ak≠(.slice (some aa) a5.length iO:Value).ownBlock∧some ak≠(xH:Value).ownBlock∧ak≠gq) (fun _=>False) rfl rfl ?l7 ?aR (fun _ _ h=>h) (fun _ h=>h.elim) ?mX ?lZ ?l9 ?aL ?_;(case aR=>exact WM)
    (case lZ=>exact ay)
    (case mX=>exact Qp)
    (case l7=>exact (by (with_reducible repeat (first|apply Kd.bW|apply Kd.bY|apply Kd.bH));exact Kd.bF ag.out (fun _ hk=>⟨hk.1.1.2,⟨hk.2,hk.1.2⟩⟩)))
    (case l9=>exact (bU ay))
    (case aL=>have:=cx.out;omega)
    intro BL fi ho hb hg hat;rw [← cy.out] at ho;have ji:=p_ (Kd.qh (ok:=(fun ak=>some ak≠(xH:Value).ownBlock∧ak≠gq)) Qv hg hat) <| p_ (iT (g:=ai) (o:=.cells #[.slice (some aH) aI.length aO] 28) (au a7) hg (Kd.fD ag.out a7.out (by decide))) <| p_ (iT (g:=aK) (o:=.cells #[.slice none 0 0] 28) (au a8) hg (Kd.fD ag.out a8.out (by decide))) <| p_ (iT (g:=ab) (o:=.cells #[.slice (some aa) a5.length iO] 28) (au a6) hg (Kd.fD ag.out a6.out (by decide))) <| p_ (iT (g:=gq) (o:=.cells #[.string jL,.bool ((aB aI dw).f1),.string ((aB aI dw).f2)] 43) (au d_) hg (Kd.sJ ag.out (fun _ hk=>hk.1.2))) <| p_ (Kd.qh (ok:=(fun ak=>some ak≠(.slice (some aa) a5.length iO:Value).ownBlock∧ak≠gq)) (by (with_reducible repeat (first|apply Kd.bW|apply Kd.bY|apply Kd.bH));exact Kd.bF sD.out (fun _ hk=>⟨⟨hk.1.1.2,hk.2⟩,hk.1.2⟩)) hg hat) <| p_ (hb) <| p_ ((show Kd.C aS fi (some aa) b7.length b7 from by rw [br.out];exact Kd.yx (m:=(a9:Int).toNat) ((Kd.dn (Kd.qh (ok:=(fun ak=>some ak≠(xH:Value).ownBlock∧ak≠gq)) Qv hg hat)).2.2) Rk.out)) <| a_ (ho);clear eX a7 a8 a6 d_ sD HB xM ag;obtain ⟨eX,a7,a8,a6,d_,sD,HB,xM,yB⟩:=ji;clear ho hb hg hat;refine hK.out _ _ ⟨(aQ a6.out 0).trans rfl,tK d_.out⟩ (fun hH=>?_);clear hK K;refine gY (some 66) ?_;exact qN zS (wR (Ee,BL,xH) _ ⟨hH,W9,adv,Qx,(au a7),(au a8),(au a6),(au d_),ay⟩)
  ·skip
   refine Kd.A8 aS _ 43 ?hg (N:=68) ?hd (xs:=([(⟨jL,((aB aI dw).f1),((aB aI dw).f2)⟩:aF)]:List (aF))) (inner:=[.string jL,.bool ((aB aI dw).f1),.string ((aB aI dw).f2)]) (ok:=fun _=>True) (jG:=fun _=>True) ?hr ?hp (fun _ hk=>hk) trivial (Below.refl _ _) (Nat.le_refl _) (by simp) ?_;(case hd=>rfl);(case hg=>rfl);(case hr=>first|(go_simp;done)|(go_simp;rfl));(case hp=>exact JX);intro xH im yJ hb mF mG;clear mF mG;(first|rw [← bd.out] at yJ|(simp only [Int.reduceToNat] at yJ;rw [← bd.out] at yJ))
   obtain ⟨eX,sD,a7,a8,a6,d_,xM,HB⟩:=p_ (Kd.jP (aN eX) (Kd.iY yJ) hb) <| p_ (Kd.dR (Kd.wL (Kd.jQ yJ (Kd.jl (aN eX))) (g:=gq) (o:=.cells #[.string jL,.bool ((aB aI dw).f1),.string ((aB aI dw).f2)] 43) (au d_)) (bU ay)) <| p_ (aU (au a7) hb) <| p_ (aU (au a8) hb) <| p_ (aU (au a6) hb) <| p_ (aU (au d_) hb) <| p_ (Kd.qP JZ hb) <| a_ (dV ay hb);clear hb yJ;refine hK.out _ _ ⟨(aQ a6.out 0).trans rfl,tK d_.out⟩ (fun hH=>?_);clear hK K;refine gY (some 68) ?_;refine iy (i:=0) (N:=some 61) Oe rfl rfl (lG aP.out aC) (by decide) (fun K hK=>?_);refine Kd.A8 aS _ 43 ?hg (N:=61) ?hd (xs:=([]:List (aF))) (inner:=[]) (ok:=fun _=>True) (jG:=fun _=>True) ?hr ?hp (fun _ hk=>hk) trivial (Below.refl _ _) (Nat.le_refl _) (by simp) ?_;(case hd=>rfl);(case hg=>rfl);(case hr=>first|(go_simp;done)|(go_simp;rfl));(case hp=>exact (gu.none _ _));intro Ee fh wV hb mF mG;clear mF mG;(first|rw [← bx.out] at wV|(simp only [Int.reduceToNat] at wV;rw [← bx.out] at wV))
   obtain ⟨eX,sD,ag,a7,a8,a6,d_,xM,HB⟩:=p_ (Kd.jP (aN eX) (Kd.iY wV) hb) <| p_ (Kd.jP (aN sD) (Kd.iY wV) hb) <| p_ (Kd.dR (Kd.wL (Kd.jQ (Kd.jQ wV (Kd.jl (aN eX))) (Kd.jl (aN sD))) (g:=gq) (o:=.cells #[.string jL,.bool ((aB aI dw).f1),.string ((aB aI dw).f2)] 43) (au d_)) (bU ay)) <| p_ (aU (au a7) hb) <| p_ (aU (au a8) hb) <| p_ (aU (au a6) hb) <| p_ (aU (au d_) hb) <| p_ (Kd.qP JZ hb) <| a_ (dV ay hb);clear hb wV;refine hK.out _ _ ⟨(aQ a6.out 0).trans rfl,tK d_.out⟩ (fun hH=>?_);clear hK K;refine gY (some 61) ?_;refine iy (i:=5) (N:=some 66) Dx rfl rfl (lG aP.out aC) (by decide) (fun K hK=>?_);refine Kd.Dp aS (w0:=w) w.heap.size (by rfl) (.tmp 61) (.tmp 65) 26 43 (.agg #[(.string ⟨#[]⟩),(.bool false),(.string ⟨#[]⟩)]) 40 rfl underlying26 q_ rfl (by decide) (by omega) Ee dx b7 _ _ _ (fun ak=>some ak≠(.slice (some aa) a5.length iO:Value).ownBlock∧some ak≠(xH:Value).ownBlock∧ak≠gq) (fun _=>False) rfl rfl ?l7 ?aR (fun _ _ h=>h) (fun _ h=>h.elim) ?mX ?lZ ?l9 ?aL ?_;(case aR=>exact WM)
   (case lZ=>exact ay)
   (case mX=>exact Qp)
   (case l7=>exact (by (with_reducible repeat (first|apply Kd.bW|apply Kd.bY|apply Kd.bH));exact Kd.bF ag.out (fun _ hk=>⟨hk.1.1.2,⟨hk.1.2,hk.2⟩⟩)))
   (case l9=>exact (bU ay))
   (case aL=>have:=cx.out;omega)
   intro BL fi ho hb hg hat;rw [← cy.out] at ho;have ji:=p_ (Kd.qh (ok:=(fun ak=>some ak≠(xH:Value).ownBlock∧ak≠gq)) Qw hg hat) <| p_ (iT (g:=ai) (o:=.cells #[.slice (some aH) aI.length aO] 28) (au a7) hg (Kd.fD ag.out a7.out (by decide))) <| p_ (iT (g:=aK) (o:=.cells #[.slice none 0 0] 28) (au a8) hg (Kd.fD ag.out a8.out (by decide))) <| p_ (iT (g:=ab) (o:=.cells #[.slice (some aa) a5.length iO] 28) (au a6) hg (Kd.fD ag.out a6.out (by decide))) <| p_ (iT (g:=gq) (o:=.cells #[.string jL,.bool ((aB aI dw).f1),.string ((aB aI dw).f2)] 43) (au d_) hg (Kd.sJ ag.out (fun _ hk=>hk.2))) <| p_ (Kd.qh (ok:=(fun ak=>some ak≠(.slice (some aa) a5.length iO:Value).ownBlock∧ak≠gq)) (by (with_reducible repeat (first|apply Kd.bW|apply Kd.bY|apply Kd.bH));exact Kd.bF sD.out (fun _ hk=>⟨⟨hk.1.1.2,hk.1.2⟩,hk.2⟩)) hg hat) <| p_ (hb) <| p_ ((show Kd.C aS fi (some aa) b7.length b7 from by rw [br.out];exact Kd.yx (m:=(a9:Int).toNat) ((Kd.dn (Kd.qh (ok:=(fun ak=>some ak≠(xH:Value).ownBlock∧ak≠gq)) Qw hg hat)).2.2) Rk.out)) <| a_ (ho);clear eX a7 a8 a6 d_ sD HB xM ag;obtain ⟨eX,a7,a8,a6,d_,sD,HB,xM,yB⟩:=ji;clear ho hb hg hat;refine hK.out _ _ ⟨(aQ a6.out 0).trans rfl,tK d_.out⟩ (fun hH=>?_);clear hK K;refine gY (some 66) ?_;exact qN zS (wR (Ee,BL,xH) _ ⟨hH,W9,adv,Qx,(au a7),(au a8),(au a6),(au d_),ay⟩)
 rintro ⟨Ee,BL,xH⟩ cm ⟨kD,iR,iL,gJ,iP,jm,jU,jK,jY⟩;obtain ⟨yB,sD,eX,a7,a8,a6,d_,HB⟩:=bT (⟨iR⟩:aA (Kd.R aS 43 cm w.heap.size (fun ak=>some ak≠(xH:Value).ownBlock∧some ak≠(.slice (some aa) a5.length iO:Value).ownBlock∧ak≠gq) BL dy)) <| bT (⟨iL⟩:aA (Kd.R aS 43 cm w.heap.size (fun ak=>some ak≠(BL:Value).ownBlock∧some ak≠(.slice (some aa) a5.length iO:Value).ownBlock∧ak≠gq) xH bm)) <| bT (⟨gJ⟩:aA (Kd.R aS 43 cm w.heap.size (fun ak=>some ak≠(BL:Value).ownBlock∧some ak≠(xH:Value).ownBlock∧ak≠gq) (.slice (some aa) a5.length iO) a5)) <| bT (⟨iP⟩:aA (cm.heap[ai]?=some (.cells #[.slice (some aH) aI.length aO] 28))) <| bT (⟨jm⟩:aA (cm.heap[aK]?=some (.cells #[.slice none 0 0] 28))) <| bT (⟨jU⟩:aA (cm.heap[ab]?=some (.cells #[.slice (some aa) a5.length iO] 28))) <| bT (⟨jK⟩:aA (cm.heap[gq]?=some (.cells #[.string jL,.bool ((aB aI dw).f1),.string ((aB aI dw).f2)] 43))) <| (⟨jY⟩:aA (Below w.heap.size w cm));have hH:jE cm ab (.slice (some aa) a5.length iO) <| Di cm gq (.string jL) (.bool ((aB aI dw).f1)) (.string ((aB aI dw).f2)):=kD;obtain ⟨cj,ck,ey⟩:=Kd.dN sD.out;(first|subst ey|(injection ey with eu iE eF;have iJ:=eu.symm;have iK:=eF.symm;clear eu iE eF;subst iJ;subst iK))
 refine qN (a':=?_) ?_ ?_;rotate_left
 ·simp only [lK,Act.put,List.setIfInBounds_toArray,List.set_cons_zero,List.set_cons_succ]
  rfl
 refine iy (i:=8) (N:=some 69) Yi rfl rfl (lG aP.out aC) (by decide) (fun K hK=>?_);refine Kd.Dp aS (w0:=w) w.heap.size (by rfl) (.tmp 66) (.tmp 68) 26 43 (.agg #[(.string ⟨#[]⟩),(.bool false),(.string ⟨#[]⟩)]) 40 rfl underlying26 q_ rfl (by decide) (by omega) BL dy bm _ _ _ (fun ak=>some ak≠(.slice (some aa) a5.length iO:Value).ownBlock∧some ak≠(.slice cj bm.length ck:Value).ownBlock∧ak≠gq) (fun _=>False) rfl rfl ?l7 ?aR (fun _ _ h=>h) (fun _ h=>h.elim) ?mX ?lZ ?l9 ?aL ?_;(case aR=>repeat (first|exact (Kd.dn sD.out).2.2|(with_reducible refine Kd.kM ?_ _)|(with_reducible refine Kd.kR ?_ _)|(with_reducible refine Kd.kQ ?_)))
 (case lZ=>exact ay)
 (case mX=>exact Qp)
 (case l7=>exact W9)
 (case l9=>exact (bU ay))
 (case aL=>have:=et.out;omega)
 intro aoR iz ho hb hg hat;rw [← ev.out] at ho;have ji:=p_ (Kd.qh (ok:=(fun ak=>some ak≠(.slice cj bm.length ck:Value).ownBlock∧ak≠gq)) adr hg hat) <| p_ (iT (g:=ai) (o:=.cells #[.slice (some aH) aI.length aO] 28) (au a7) hg (Kd.fD yB.out a7.out (by decide))) <| p_ (iT (g:=aK) (o:=.cells #[.slice none 0 0] 28) (au a8) hg (Kd.fD yB.out a8.out (by decide))) <| p_ (iT (g:=ab) (o:=.cells #[.slice (some aa) a5.length iO] 28) (au a6) hg (Kd.fD yB.out a6.out (by decide))) <| p_ (iT (g:=gq) (o:=.cells #[.string jL,.bool ((aB aI dw).f1),.string ((aB aI dw).f2)] 43) (au d_) hg (Kd.sJ yB.out (fun _ hk=>hk.2.2))) <| p_ (Kd.qh (ok:=(fun ak=>some ak≠(.slice (some aa) a5.length iO:Value).ownBlock∧ak≠gq)) (by (with_reducible repeat (first|apply Kd.bW|apply Kd.bY|apply Kd.bH));exact Kd.bF sD.out (fun _ hk=>⟨⟨hk.2.1,hk.2.2⟩,hk.1⟩)) hg hat) <| p_ (hb) <| a_ (ho);clear eX a7 a8 a6 d_ sD HB yB;obtain ⟨eX,a7,a8,a6,d_,sD,HB,be⟩:=ji;clear ho hb hg hat;refine hK.out _ _ ⟨(aQ a6.out 0).trans rfl,tK d_.out⟩ (fun hH=>?_);clear hK K;refine gY (some 69) ?_;refine dF 9 11 Yj aP ?_;refine jd (kC aP.out aC) ?_;obtain ⟨al,am,aw,ax,bp,bo⟩:=lU ao an aq ap b3 ba;have apM:=bZ a6.out;have fj:(a9:Int)≤((a5.length:Int):Int):=aX aY;obtain ⟨aCt,aaF,_,aaS,_⟩:=info_parts q_;have VE:a5.length≤iO:=(Kd.dn eX.out).2.1;have Zn:Kd.C aS _ (some aa) a5.length a5:=(Kd.dn eX.out).2.2;have fk:(0:Int)≤(a9:Int):=aX aY;have agH:=Y6 (P:=Tryz.prog) 26 43 .i64 underlying26 aaF 3 aaS (some aa) a5.length iO a9 fk fj;have LP:=Kd.Np (m:=(a9:Int).toNat) (c:=iO) Zn (by omega) VE;obtain ⟨ia,Ou⟩:∃ A1,A1=(if iO=(a9:Int).toNat then (some aa) else ((some aa):Option Addr).map (·.add ((a9:Int).toNat * 3))):=⟨_,rfl⟩;obtain ⟨io,TI⟩:∃ c1,c1=iO - (a9:Int).toNat:=⟨_,rfl⟩;have d8:fG.length=a5.length - (a9:Int).toNat:=(by rw [cz.out,List.length_drop] <;> omega);rw [show (a5).drop (a9:Int).toNat=fG from cz.out.symm] at LP;replace LP:Kd.C aS _ ia fG.length fG:=(by rw [Ou];exact LP);rw [← d8,← Ou,← TI] at agH;have bz:=m_ LP;have ib:=m_ (show fG.length≤io from by rw [d8,TI];exact Nat.sub_le_sub_right VE _);clear LP Zn VE aaF aaS TI;have aqf:=m_ d8;have aeM:=m_ Ou;clear d8 Ou;have aeP:=m_ (show (a9:Int).toNat≤a5.length from by omega);replace fj:=eq_true fj;try go_wp2_with (first|((with_reducible refine zu (b:=.append) (xs:=#[.tmp 70,.tmp 74]) rfl ?_);at_builtin;refine Kd.GK aS (w0:=w) w.heap.size rfl (.tmp 70) (.tmp 74) 26 43 (.agg #[(.string ⟨#[]⟩),(.bool false),(.string ⟨#[]⟩)]) 40 rfl underlying26 q_ rfl (by decide) (by omega) aoR tN fG _ _ _ (fun ak=>some ak≠(.slice (some aa) a5.length iO:Value).ownBlock∧some ak≠(.slice cj bm.length ck:Value).ownBlock∧ak≠gq) (fun _=>False) rfl rfl ?l7 ?aR (fun _ _ h=>h) (fun _ h=>h.elim) ?mX ?lZ ?l9 ?aL ?_;(case aR=>repeat (first|exact (by repeat (first|(with_reducible exact bz.out)|(with_reducible refine Kd.kM ?_ _)|(with_reducible refine Kd.kR ?_ _)|(with_reducible refine Kd.kQ ?_)|exact bz.out))|(with_reducible refine Kd.kM ?_ _)|(with_reducible refine Kd.kR ?_ _)|(with_reducible refine Kd.kQ ?_)));(case lZ=>exact ay);(case mX=>exact Qp);(case l7=>exact (aN be));(case l9=>exact (bU ay));(case aL=>have:=ew.out;omega);intro aDr ip ho hb hg hat;rw [← ex.out] at ho;have ji:=p_ (Kd.qh (ok:=(fun ak=>some ak≠(.slice cj bm.length ck:Value).ownBlock∧ak≠gq)) (aN eX) hg hat) <| p_ (iT (g:=ai) (o:=.cells #[.slice (some aH) aI.length aO] 28) (au a7) hg (Kd.fD be.out a7.out (by decide))) <| p_ (iT (g:=aK) (o:=.cells #[.slice none 0 0] 28) (au a8) hg (Kd.fD be.out a8.out (by decide))) <| p_ (iT (g:=ab) (o:=.cells #[.slice (some aa) a5.length iO] 28) (au a6) hg (Kd.fD be.out a6.out (by decide))) <| p_ (iT (g:=gq) (o:=.cells #[.string jL,.bool ((aB aI dw).f1),.string ((aB aI dw).f2)] 43) (au d_) hg (Kd.sJ be.out (fun _ hk=>hk.2.2))) <| p_ (Kd.qh (ok:=(fun ak=>some ak≠(.slice (some aa) a5.length iO:Value).ownBlock∧ak≠gq)) (aN sD) hg hat) <| p_ (hb) <| p_ ((show Kd.C aS ip ia fG.length fG from by rw [cz.out,aeM.out];exact Kd.Np (m:=(a9:Int).toNat) (c:=iO) ((Kd.dn (Kd.qh (ok:=(fun ak=>some ak≠(.slice cj bm.length ck:Value).ownBlock∧ak≠gq)) (aN eX) hg hat)).2.2) aeP.out ((Kd.dn (Kd.qh (ok:=(fun ak=>some ak≠(.slice cj bm.length ck:Value).ownBlock∧ak≠gq)) (aN eX) hg hat)).2.1))) <| a_ (ho);clear eX a7 a8 a6 d_ sD HB bz be;obtain ⟨eX,a7,a8,a6,d_,sD,HB,bz,dm⟩:=ji;clear ho hb hg hat;obtain ⟨fl,fm,fo⟩:=Kd.dN dm.out;subst fo;have aET:=bZ a6.out))
 go_roundg k4
 case measure=>have:=gG.out;have:=Gs.out;have:=Nr.out;have:=Nu.out;omega
 case rel=>exact ⟨(wrap64 (dw+1)),(dz),(.slice fl dz.length fm),bC,H',⟨WV⟩,⟨(by (with_reducible repeat (first|apply Kd.bW|apply Kd.bY|apply Kd.bH));exact Kd.bF (aJ (Kd.bV dm.out a6.out (by decide))) (fun _ hk=>trivial))⟩,⟨bf⟩,⟨bf⟩,⟨bf⟩,⟨ay⟩⟩

end Go.Proofs.YthejdhjpbpamoaaGreatDoor.pU
