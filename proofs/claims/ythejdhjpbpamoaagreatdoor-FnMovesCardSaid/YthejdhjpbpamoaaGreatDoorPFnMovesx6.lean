/- Contracts of Go functions: each call returns what the Lean function beside it computes. Conditions: as each theorem states them. -/
import Derived.Test.YthejdhjpbpamoaaGreatDoorPkFnMoves
import Derived.Test.YthejdhjpbpamoaaGreatDoorPFnMovesx1
import Derived.Test.YthejdhjpbpamoaaGreatDoorPFnMovesx3
import Derived.Test.YthejdhjpbpamoaaGreatDoorPFnMovesx4
import Derived.Test.YthejdhjpbpamoaaGreatDoorPFnMovesx5
namespace Go.Proofs.YthejdhjpbpamoaaGreatDoor.jM
open Go.RowKit Go.Proofs.YthejdhjpbpamoaaGreatDoorW.iK Go.Proofs.YthejdhjpbpamoaaGreatDoorW.lX Go.Proofs.YthejdhjpbpamoaaGreatDoorW.oV Go.Proofs.Tryz
attribute [local go_sem] qI qM qL qP qK qO qJ qN   -- for this text's walks alone
set_option linter.unusedVariables false
set_option maxHeartbeats 8000000
set_option maxRecDepth 100000
set_option linter.unusedSimpArgs false

mutual
def qU.j0:Nat→Int→Bool→List (aC)→Int→ByteArray→ByteArray→Int→Int→ByteArray→Option ((List (aC)) × Int × ByteArray × Int × Bool × List ByteArray)
 | 0,_,_,_,_,_,_,_,_,_=>none
 | k+1,h_,ac,a5,a6,a7,a8,a9,aa,ab=>if ac=true then (qU.j1 k 8 a5 a6 a7 a8 a9 aa ab) else (qU.j1 k h_ a5 a6 a7 a8 a9 aa ab)
def qU.j1:Nat→Int→List (aC)→Int→ByteArray→ByteArray→Int→Int→ByteArray→Option ((List (aC)) × Int × ByteArray × Int × Bool × List ByteArray)
 | 0,_,_,_,_,_,_,_,_=>none
 | k+1,h_,a6,a7,a8,a9,aa,ab,ac=>if h_=0 then ((ji.f k a6 a8 (a7 == 2) (⟨#[]⟩:ByteArray)).bind fun ae=>(some (ae,0,(⟨#[]⟩:ByteArray),0,false,([]:List ByteArray)))) else ((pY.f a6).bind fun af=>((lU.f h_).bind fun a5=>(some (af,a5.1,a5.2.1,a5.2.2.1,a5.2.2.2.1,a5.2.2.2.2))))
end
def qU.f (k:Nat) (af:Int) (ag:Int) (ae:Int) (aP:Int) (a5:List (aC)) (a8:Int) (a6:ByteArray) (a9:ByteArray) (aa:Int) (ab:Int) (ac:ByteArray):Option ((List (aC)) × Int × ByteArray × Int × Bool × List ByteArray):=(xU.f k a5 a6).bind fun a7=>(if a7=0 then (qU.j0 k a7 (decide ((wrap64 ((a5.length:Int)+1)) ≥ ae)) a5 a8 a6 a9 aa ab ac) else (qU.j0 k a7 false a5 a8 a6 a9 aa ab ac))
theorem qU.calls (k:Nat) (dM:Int) (bh:Int) (b5:Int) (bi:Int) (ap:Option Addr) (aq:Nat) (aK:List (aC)) (ao:Int) (af:ByteArray) (dw:ByteArray) (az:Int) (b0:Int) (b1:ByteArray) (r1:List (aC)) (r2:Int) (r3:ByteArray) (r4:Int) (r5:Bool) (r6:List ByteArray) (w:World) (bx:Kd.C bF w ap aK.length aK) (bz:aK.length≤aq) (h:qU.f k dM bh b5 bi aK ao af dw az b0 b1=some (r1,r2,r3,r4,r5,r6)) :
  Calls Tryz.prog 76 #[.agg #[ah dM,ah bh,ah b5,ah bi],.agg #[.slice ap aK.length aq],.agg #[ah ao,.string af,.string dw,ah az,ah b0,.string b1]] w fun e w'=>∃ gQ y5:Value,e=.returned (.tuple #[.agg #[gQ],.agg #[ah r2,.string r3,ah r4,.bool r5,y5]])∧Kd.R bF 43 w' w.heap.size (fun _=>True) gQ r1∧Kd.R Kd.string 9 w' w.heap.size (fun _=>True) y5 r6∧Below w.heap.size w w':=by
 have w_:=underlying25
 have oq:=underlying28
 have Hy:=underlying45
 have JL:=underlying49
 have rF:=underlying43
 have rC:=m_ bx
 have bj:=m_ bz
 clear bx bz
 have HB:=m_ (Below.refl w.heap.size w)
 unfold qU.f at h
 have H:=h
 clear h
 obtain ⟨bs,A4,H⟩:=bd_ H
 have d3:=m_ H
 clear H
 go_enter func76,ntmps76
 go_upto_region 2 with (first|((with_reducible refine dG 3 ?_);(try (refine oh (by rfl) ?_;dsimp only));refine dU 3 (cs:=#[ah dM,ah bh,ah b5,ah bi]) 25 ?_;intro ca hg w6 hbox hb;obtain ⟨HB,a6,de,df⟩:=kE ay hb hbox hg;clear hb hbox hg)|((with_reducible refine dG 4 ?_);(try (refine oh (by rfl) ?_;dsimp only));refine dU 4 (cs:=#[.slice ap aK.length aq]) 28 ?_;intro cc hg w7 hbox hb;obtain ⟨a6,HB,a5,dg,lg,b6,b7⟩:=qj (aj a6) ay hb hbox hg;clear hb hbox hg)|((with_reducible refine dG 5 ?_);(try (refine oh (by rfl) ?_;dsimp only));refine dU 5 (cs:=#[ah ao,.string af,.string dw,ah az,ah b0,.string b1]) 45 ?_;intro cd hg w8 hbox hb;obtain ⟨a6,a5,HB,a8,di,dj,b8,b9,ba,bb⟩:=wu (aj a6) (aj a5) ay hb hbox hg;clear hb hbox hg)|((with_reducible refine dG 6 ?_);(try (refine oh (by rfl) ?_;dsimp only));refine dU 6 (cs:=#[.slice none 0 0]) 28 ?_;intro b2 hg w9 hbox hb;obtain ⟨a6,a5,a8,HB,a7,dk,dl,aa,ab,bc,bd,aP,ai⟩:=yF (aj a6) (aj a5) (aj a8) ay hb hbox hg;clear hb hbox hg)|((with_reducible refine dG 7 ?_);(try (refine oh (by rfl) ?_;dsimp only));refine dU 7 (cs:=#[ah 0,.string (⟨#[]⟩:ByteArray),ah 0,.bool false,.slice none 0 0]) 49 ?_;intro b3 hg ec hbox hb;obtain ⟨a6,a5,a8,a7,HB,a9,dm,kM,ac,ae,be,fF,aN,aT,al,am⟩:=zQ (aj a6) (aj a5) (aj a8) (aj a7) ay hb hbox hg;clear hb hbox hg;obtain ⟨ci,cj,ck,cl,cm,cn,co,cp⟩:=i_ b7 b6 ba bb bc bd be fF;have BR:=cu a5.out;obtain ⟨cq,cr,bl,bm,fK,bo⟩:=kL b9 b8 aP ai aN aT;have bu:=jV a8.out)|((with_reducible refine bU 14 ?_);refine bV (some 12) rfl rfl func14 aB rfl #[.agg #[.slice ap aK.length aq],.string af] rfl aW ?_;(with_reducible refine (xU.calls k _ _ aK af bs _ l9 bj.out A4.out).mono ?_);rintro e ed ⟨rfl,hb⟩;refine ⟨_,rfl,?_⟩;obtain ⟨a6,a5,a8,a7,a9,HB⟩:=nM (aj a6) (aj a5) (aj a8) (aj a7) (aj a9) ay hb;(try clear hb)))
 (try simp only [Act.put,List.setIfInBounds_toArray,List.set_cons_zero,List.set_cons_succ])
 go_cut [23] (fun v23 wc=>∃ (kq:Nat) (b4:Bool),v23=.bool b4∧aA (qU.j0 kq bs b4 aK ao af dw az b0 b1=some (r1,r2,r3,r4,r5,r6))∧aA (kq≤k)∧aA (wc.heap[ca]?=some (.cells #[ah dM,ah bh,ah b5,ah bi] 25))∧aA (wc.heap[cc]?=some (.cells #[(.slice ap aK.length aq)] 28))∧aA (wc.heap[cd]?=some (.cells #[ah ao,.string af,.string dw,ah az,ah b0,.string b1] 45))∧aA (wc.heap[b2]?=some (.cells #[(.slice none 0 0)] 28))∧aA (wc.heap[b3]?=some (.cells #[ah 0,.string (⟨#[]⟩:ByteArray),ah 0,.bool false,(.slice none 0 0)] 49))∧aA (Below w.heap.size w wc))
 case first =>
  obtain ⟨H⟩:=d3
  revert H;refine fJ (fun bv H=>?_) fun bv H=>?_
  rotate_left
  ·have ag:=gU bv
   have bp:=gV bv
   try simp only [bI,bY,ag]
   have H':=m_ H
   clear H
   go_wp2
   go_meet
   case rel=>exact ⟨_,(false),bg,H',⟨kH⟩,⟨(aj a6)⟩,⟨(aj a5)⟩,⟨(aj a8)⟩,⟨(aj a7)⟩,⟨(aj a9)⟩,⟨ay⟩⟩
  have ag:=gZ bv
  have bp:=g_ bv
  clear bv
  try simp only [bI,bY,ag]
  have H':=m_ H
  clear H
  have XA:=cu a5.out
  obtain ⟨ar,bP,av,aw⟩:=jE aa ab ac ae
  have bw:=jQ a6.out
  go_wp2
  go_meet
  case rel=>exact ⟨_,(decide ((wrap64 ((aK.length:Int)+1)) ≥ b5)),bg,H',⟨kH⟩,⟨(aj a6)⟩,⟨(aj a5)⟩,⟨(aj a8)⟩,⟨(aj a7)⟩,⟨(aj a9)⟩,⟨ay⟩⟩
 case rest =>
 clear d3
 try clear BR;try clear bu;try clear BR
 obtain ⟨kq,b4,rfl,HA,En,a6,a5,a8,a7,a9,HB⟩:=hcut
 cases kq with
 | zero=>exact absurd HA.out (by simp [qU.j0])
 | succ E_ =>
 obtain ⟨H⟩:=HA
 simp only [qU.j0] at H
 have cg:=m_ H
 clear H
 go_upto_if 23 with (fail)
 go_cut [8] (fun v8 wc=>∃ (kq:Nat) (an:Int),v8=ah an∧aA (qU.j1 kq an aK ao af dw az b0 b1=some (r1,r2,r3,r4,r5,r6))∧aA (kq≤E_)∧aA (wc.heap[ca]?=some (.cells #[ah dM,ah bh,ah b5,ah bi] 25))∧aA (wc.heap[cc]?=some (.cells #[(.slice ap aK.length aq)] 28))∧aA (wc.heap[cd]?=some (.cells #[ah ao,.string af,.string dw,ah az,ah b0,.string b1] 45))∧aA (wc.heap[b2]?=some (.cells #[(.slice none 0 0)] 28))∧aA (wc.heap[b3]?=some (.cells #[ah 0,.string (⟨#[]⟩:ByteArray),ah 0,.bool false,(.slice none 0 0)] 49))∧aA (Below w.heap.size w wc))
 case first =>
  obtain ⟨H⟩:=cg
  by_cases ct:b4=true
  ·subst ct
   rw [if_pos rfl] at H
   have H':=m_ H
   clear H
   go_wp2
   go_meet
   case rel=>exact ⟨_,(8),bg,H',⟨(by have:=En.out;first|omega|exact Nat.le_refl _)⟩,⟨(aj a6)⟩,⟨(aj a5)⟩,⟨(aj a8)⟩,⟨(aj a7)⟩,⟨(aj a9)⟩,⟨ay⟩⟩
  replace ct:=Bool.eq_false_iff.mpr ct
  subst ct
  rw [if_neg iO] at H
  have H':=m_ H
  clear H
  go_wp2
  go_meet
  case rel=>exact ⟨_,(bs),bg,H',⟨(by have:=En.out;first|omega|exact Nat.le_refl _)⟩,⟨(aj a6)⟩,⟨(aj a5)⟩,⟨(aj a8)⟩,⟨(aj a7)⟩,⟨(aj a9)⟩,⟨ay⟩⟩
 case rest =>
 clear cg
 obtain ⟨kq,an,rfl,HA,F7,a6,a5,a8,a7,a9,HB⟩:=hcut
 cases kq with
 | zero=>exact absurd HA.out (by simp [qU.j1])
 | succ E9 =>
 obtain ⟨H⟩:=HA
 simp only [qU.j1] at H
 revert H;refine fJ (fun ch H=>?_) fun ch H=>?_
 ·have jg:=gZ ch
  have cv:=g_ ch
  clear ch
  obtain ⟨cw,e6,H⟩:=bd_ H
  simp only [Option.some.injEq,Prod.mk.injEq] at H
  obtain ⟨rfl,rfl,rfl,rfl,rfl,rfl⟩:=H
  have akD:=cu a5.out
  have e7:=jV a8.out
  go_wp2_with (first|((with_reducible refine bU 90 ?_);refine bV (some 37) rfl rfl func90 aB rfl #[.agg #[.slice ap aK.length aq],.agg #[.string af,.bool (ao == 2),.string (⟨#[]⟩:ByteArray)]] rfl aW ?_;(with_reducible refine (ji.calls E9 _ _ aK af (ao == 2) (⟨#[]⟩:ByteArray) cw _ l9 bj.out e6.out).mono ?_);rintro e ee ⟨aiM,rfl,ho0,hb⟩;refine ⟨_,rfl,?_⟩;obtain ⟨ce,a6,a5,a8,a7,a9,HB⟩:=p_ (Kd.dK ho0 (dO ay)) <| nM (aj a6) (aj a5) (aj a8) (aj a7) (aj a9) ay hb;(try clear hb);(try clear ho0);obtain ⟨d4,d5,d6⟩:=Kd.dJ ce.out;subst d6;obtain ⟨bP,ar,bq,br⟩:=jE ab aa al am;have akJ:=cu a7.out;obtain ⟨aw,av⟩:=iJ ae ac;have e8:=vZ a9.out))
  refine bodyPost_ret (nD rfl _ _ b2 b3 28 49 #[.slice d4 cw.length d5] #[ah 0,.string (⟨#[]⟩:ByteArray),ah 0,.bool false,.slice none 0 0] (0,0) (0,0) _ _ rfl bH underlying28 rfl aB rfl bH underlying49 rfl aB) rfl ?_
  exact ⟨_,_,b_,(by (with_reducible repeat (first|apply Kd.dR|apply Kd.dS|apply Kd.bK));exact Kd.bW (aU (aU (aU (aU (aU (aU (Kd.dL (Kd.dL ce.out a7.out (by decide)) a9.out (by decide)) (fun _ hk=>hk.1.2))))))) (fun _ hk=>trivial)),tN,ay⟩
 have jg:=gU ch
 have cv:=gV ch
 obtain ⟨cx,e9,H⟩:=bd_ H
 obtain ⟨⟨cy,cz,d0,d1,d2⟩,ea,H⟩:=bd_ H
 try dsimp -simprocs only at H
 simp only [Option.some.injEq,Prod.mk.injEq] at H
 obtain ⟨rfl,rfl,rfl,rfl,rfl,rfl⟩:=H
 have akO:=cu a5.out
 go_wp2_with (first|((with_reducible refine bU 73 ?_);refine bV (some 27) rfl rfl func73 aB rfl #[.agg #[.slice ap aK.length aq]] rfl aW ?_;(with_reducible refine (pY.calls _ _ aK cx _ l9 bj.out e9.out).mono ?_);rintro e ef ⟨aiN,rfl,ho0,hb⟩;refine ⟨_,rfl,?_⟩;obtain ⟨ax,a6,a5,a8,a7,a9,HB⟩:=p_ (Kd.dK ho0 (dO ay)) <| nM (aj a6) (aj a5) (aj a8) (aj a7) (aj a9) ay hb;(try clear hb);(try clear hk);(try clear ho0))|((with_reducible refine bU 75 ?_);refine bV (some 29) rfl rfl func75 aB rfl #[ah an] rfl aW ?_;(with_reducible refine (lU.calls an cy cz d0 d1 d2 _ ea.out).mono ?_);rintro e eh ⟨aiO,rfl,ho0,hb⟩;refine ⟨_,rfl,?_⟩;obtain ⟨ax,cf,a6,a5,a8,a7,a9,HB⟩:=p_ (Kd.bn (aG ax) hb) <| p_ (Kd.dK ho0 (dO ay)) <| nM (aj a6) (aj a5) (aj a8) (aj a7) (aj a9) ay hb;(try clear hb);(try clear ho0);obtain ⟨d7,d8,d9⟩:=Kd.dJ ax.out;subst d9;obtain ⟨bP,ar,bm,bl,bq,br⟩:=kL ab aa ai aP al am;have akR:=cu a7.out;obtain ⟨aw,av,bo,fK⟩:=jE ae ac aT aN;have eb:=vZ a9.out;obtain ⟨da,db,dd⟩:=Kd.dJ cf.out;subst dd))
 refine bodyPost_ret (nD rfl _ _ b2 b3 28 49 #[.slice d7 cx.length d8] #[ah cy,.string cz,ah d0,.bool d1,.slice da d2.length db] (0,0) (0,0) _ _ rfl bH underlying28 rfl aB rfl bH underlying49 rfl aB) rfl ?_
 exact ⟨_,_,b_,(by (with_reducible repeat (first|apply Kd.dR|apply Kd.dS|apply Kd.bK));exact Kd.bW (aU (aU (aU (aU (aU (aU (Kd.dL (Kd.dL ax.out a7.out (by decide)) a9.out (by decide)) (fun _ hk=>hk.1.2))))))) (fun _ hk=>trivial)),(by (with_reducible repeat (first|apply Kd.dR|apply Kd.dS|apply Kd.bK));exact Kd.bW (aU (aU (aU (aU (aU (aU (Kd.dL (Kd.dL cf.out a7.out (by decide)) a9.out (by decide)) (fun _ hk=>hk.1.2))))))) (fun _ hk=>trivial)),ay⟩

mutual
def oH.j0:Nat→List ByteArray→List ByteArray→Bool→Option (Bool)
 | 0,_,_,_=>none
 | k+1,x5,x7,a5=>if a5=true then (some false) else (oH.l0 k x5 x7 0)
def oH.l0:Nat→List ByteArray→List ByteArray→Int→Option (Bool)
 | 0,_,_,_=>none
 | k+1,x5,x7,mW=>if mW < (x7.length:Int) then (if 0≤mW then (if mW < (x5.length:Int) then (if (pW ByteArray.empty x5 mW).toList=(pW ByteArray.empty x7 mW).toList then (oH.l0 k x5 x7 (wrap64 (mW+1))) else (some false)) else (none)) else (none)) else (some true)
end
def oH.f (k:Nat) (a0:ByteArray) (a1:ByteArray):Option (Bool):=(jm.f k a0).bind fun a5=>((jm.f k a1).bind fun a6=>(if a5.2=0 then (if a6.2=0 then (oH.j0 k a5.1 a6.1 (decide ((a5.1.length:Int)≤(a6.1.length:Int)))) else (oH.j0 k a5.1 a6.1 true)) else (oH.j0 k a5.1 a6.1 true)))
theorem oH.calls (k:Nat) (a0:ByteArray) (a1:ByteArray) (r:Bool) (w:World) (h:oH.f k a0 a1=some r) :
  Calls Tryz.prog 15 #[.string a0,.string a1] w fun e w'=>e=.returned (.bool r)∧Below w.heap.size w w':=by
 have HB:=m_ (Below.refl w.heap.size w)
 unfold oH.f at h
 have H:=h
 clear h
 obtain ⟨⟨a7,af⟩,A3,H⟩:=bd_ H
 try dsimp -simprocs only at H
 obtain ⟨⟨a6,ag⟩,A4,H⟩:=bd_ H
 try dsimp -simprocs only at H
 have dw:=m_ H
 clear H
 go_enter func15,ntmps15
 go_upto_region 3 with (first|(go_at_call 53;(with_reducible refine (jm.calls k a0 a7 af _ A3.out).mono ?_);rintro e w6 ⟨FT,rfl,ho0,hb⟩;obtain ⟨wI,HB⟩:=p_ (Kd.dK ho0 (dO ay)) <| a_ (dI ay hb);(try clear hb);(try clear ho0))|(go_at_call 53;(with_reducible refine (jm.calls k a1 a6 ag _ A4.out).mono ?_);rintro e w7 ⟨FU,rfl,ho0,hb⟩;obtain ⟨wI,I9,HB⟩:=p_ (Kd.iY (aG wI) (Kd.iW ho0) hb) <| p_ (Kd.dK (Kd.iZ ho0 (Kd.iD (aG wI))) (dO ay)) <| a_ (dI ay hb);(try clear hb);(try clear ho0)))
 repeat (go_quiet (first|(go_at_call 53;(with_reducible refine (jm.calls k a0 a7 af _ A3.out).mono ?_);rintro e w6 ⟨FT,rfl,ho0,hb⟩;obtain ⟨wI,HB⟩:=p_ (Kd.dK ho0 (dO ay)) <| a_ (dI ay hb);(try clear hb);(try clear ho0))|(go_at_call 53;(with_reducible refine (jm.calls k a1 a6 ag _ A4.out).mono ?_);rintro e w7 ⟨FU,rfl,ho0,hb⟩;obtain ⟨wI,I9,HB⟩:=p_ (Kd.iY (aG wI) (Kd.iW ho0) hb) <| p_ (Kd.dK (Kd.iZ ho0 (Kd.iD (aG wI))) (dO ay)) <| a_ (dI ay hb);(try clear hb);(try clear ho0)));go_upto_region 3 with (first|(go_at_call 53;(with_reducible refine (jm.calls k a0 a7 af _ A3.out).mono ?_);rintro e w6 ⟨FT,rfl,ho0,hb⟩;obtain ⟨wI,HB⟩:=p_ (Kd.dK ho0 (dO ay)) <| a_ (dI ay hb);(try clear hb);(try clear ho0))|(go_at_call 53;(with_reducible refine (jm.calls k a1 a6 ag _ A4.out).mono ?_);rintro e w7 ⟨FU,rfl,ho0,hb⟩;obtain ⟨wI,I9,HB⟩:=p_ (Kd.iY (aG wI) (Kd.iW ho0) hb) <| p_ (Kd.dK (Kd.iZ ho0 (Kd.iD (aG wI))) (dO ay)) <| a_ (dI ay hb);(try clear hb);(try clear ho0))))
 (try simp only [Act.put,List.setIfInBounds_toArray,List.set_cons_zero,List.set_cons_succ])
 go_cut [32] (fun v32 wc=>∃ (kq:Nat) (ab:Bool),v32=.bool ab∧aA (oH.j0 kq a7 a6 ab=some r)∧aA (kq≤k)∧aA (Kd.R Kd.string 9 wc w.heap.size (fun aF=>some aF≠(FU:Value).ownBlock) FT a7)∧aA (Kd.R Kd.string 9 wc w.heap.size (fun aF=>some aF≠(FT:Value).ownBlock) FU a6)∧aA (Below w.heap.size w wc))
 case first =>
  obtain ⟨H⟩:=dw
  revert H;refine fJ (fun c8 H=>?_) fun c8 H=>?_
  rotate_left
  ·have aa:=gU c8
   have aN:=gV c8
   try simp only [bI,bY,aa]
   have H':=m_ H
   clear H
   go_wp2
   repeat (go_quiet (fail);try go_wp2)
   go_meet
   case rel=>exact ⟨_,(true),bg,H',⟨kH⟩,⟨PZ⟩,⟨PY⟩,⟨ay⟩⟩
  have aa:=gZ c8
  have aN:=g_ c8
  clear c8
  try simp only [bI,bY,aa]
  revert H;refine fJ (fun c9 H=>?_) fun c9 H=>?_
  rotate_left
  ·have aT:=gU c9
   have al:=gV c9
   have H':=m_ H
   clear H
   go_wp2
   repeat (go_quiet (fail);try go_wp2)
   go_meet
   case rel=>exact ⟨_,(true),bg,H',⟨kH⟩,⟨PZ⟩,⟨PY⟩,⟨ay⟩⟩
  have aT:=gZ c9
  have al:=g_ c9
  clear c9
  have H':=m_ H
  clear H
  obtain ⟨bb,bc,az⟩:=Kd.dJ wI.out
  subst az
  obtain ⟨bd,be,b0⟩:=Kd.dJ I9.out
  subst b0
  go_wp2
  repeat (go_quiet (fail);try go_wp2)
  go_meet
  case rel=>exact ⟨_,(decide ((a7.length:Int)≤(a6.length:Int))),bg,H',⟨kH⟩,⟨PZ⟩,⟨PY⟩,⟨ay⟩⟩
 case rest =>
 clear dw
 obtain ⟨kq,ab,rfl,HA,En,ac,ae,HB⟩:=hcut
 cases kq with
 | zero=>exact absurd HA.out (by simp [oH.j0])
 | succ E_ =>
 obtain ⟨H⟩:=HA
 simp only [oH.j0] at H
 by_cases bP:ab=true
 ·subst bP
  rw [if_pos rfl] at H
  obtain rfl:=cZ H
  go_wp2
  repeat (go_quiet (fail);try go_wp2)
  go_ret
  exact ⟨b_,ay⟩
 replace bP:=Bool.eq_false_iff.mpr bP
 subst bP
 rw [if_neg iO] at H
 have H':=m_ H
 clear H
 go_wp2
 repeat (go_quiet (fail);try go_wp2)
 go_loopg [9] E_ (fun kq v9 w'=>∃ (a5:Int),v9=ah a5∧aA (oH.l0 kq a7 a6 a5=some r)∧aA (kq≤E_)∧aA (Kd.R Kd.string 9 w' w.heap.size (fun aF=>some aF≠(FU:Value).ownBlock) FT a7)∧aA (Kd.R Kd.string 9 w' w.heap.size (fun aF=>some aF≠(FT:Value).ownBlock) FU a6)∧aA (Below w.heap.size w w'))
 case atStart=>exact ⟨(0),bg,H',⟨Nat.le_refl _⟩,⟨(aG ac)⟩,⟨(aG ae)⟩,⟨ay⟩⟩
 case round =>
 clear H'
 try clear bP
 obtain ⟨a5,rfl,HA,jv,ac,ae,HB⟩:=hrel
 cases gk with
 | zero=>exact absurd HA.out (by simp [oH.l0])
 | succ k2 =>
 obtain ⟨H⟩:=HA
 simp only [oH.l0] at H
 have av:=m_ H
 clear H
 obtain ⟨fF,dM,b1⟩:=Kd.dJ ae.out
 subst b1
 go_upto_if 36 with (fail)
 repeat (go_quiet (fail);go_upto_if 36 with (fail))
 obtain ⟨H⟩:=av
 revert H;refine gI (fun a8 H=>?_) fun a8 H=>?_
 rotate_left
 ·try simp only [bI,bY,a8]
  obtain rfl:=cZ H
  go_wp2
  repeat (go_quiet (fail);try go_wp2)
  go_ret
  exact ⟨b_,ay⟩
 try simp only [bI,bY,a8]
 obtain ⟨b6,H⟩:=fU H
 obtain ⟨b8,H⟩:=fU H
 have aw:=m_ H
 clear H
 obtain ⟨bh,bi,b2⟩:=Kd.dJ ac.out
 subst b2
 have am:0≤(a5:Int):=bC bD
 have an:a5 < (a7.length:Int):=bC bD
 obtain ⟨b9,b3,aP⟩:=Kd.yw (Kd.bZ ac.out).2.2 a5 am an
 cases b3
 replace am:=eq_true am
 replace an:=eq_true an
 have ao:0≤(a5:Int):=bC bD
 have ap:a5 < (a6.length:Int):=bC bD
 obtain ⟨ba,b4,ai⟩:=Kd.yw (Kd.bZ ae.out).2.2 a5 ao ap
 cases b4
 replace ao:=eq_true ao
 replace ap:=eq_true ap
 go_upto_if 47 with (fail)
 repeat (go_quiet (fail);go_upto_if 47 with (fail))
 (try clear aP)
 (try clear ai)
 obtain ⟨H⟩:=aw
 revert H;refine fJ (fun aq H=>?_) fun aq H=>?_
 rotate_left
 ·have a9:=gU aq
  have ax:=gV aq
  try simp only [bI,bY,a9]
  obtain rfl:=cZ H
  go_wp2
  repeat (go_quiet (fail);try go_wp2)
  go_ret
  exact ⟨b_,ay⟩
 have a9:=gZ aq
 have ax:=g_ aq
 clear aq
 try simp only [bI,bY,a9]
 have H':=m_ H
 clear H
 go_wp2
 repeat (go_quiet (fail);try go_wp2)
 go_roundg k2
 case measure=>have:=En.out;have:=jv.out;omega
 case rel=>exact ⟨(wrap64 (a5+1)),bg,H',⟨(by have:=En.out;have:=jv.out;omega)⟩,⟨(aG ac)⟩,⟨(aG ae)⟩,⟨ay⟩⟩

end Go.Proofs.YthejdhjpbpamoaaGreatDoor.jM
