/- Contracts of Go functions: each call returns what the Lean function beside it computes. Conditions: as each theorem states them. -/
import Derived.Test.YthejdhjpbpamoaaGreatDoorPkFnCodes
import Derived.Test.YthejdhjpbpamoaaGreatDoorPFnCodesx1
import Derived.Test.YthejdhjpbpamoaaGreatDoorPFnCodesx2
import Derived.Test.YthejdhjpbpamoaaGreatDoorPFnCodesx17
import Derived.Test.YthejdhjpbpamoaaGreatDoorPFnCodesx18
namespace Go.Proofs.YthejdhjpbpamoaaGreatDoor.jD
open Go.RowKit Go.Proofs.YthejdhjpbpamoaaGreatDoorW.iw Go.Proofs.YthejdhjpbpamoaaGreatDoorW.lH Go.Proofs.YthejdhjpbpamoaaGreatDoorW.oO Go.Proofs.Tryz
attribute [local go_sem] qw qB qA qF qy qE qx qC   -- for this text's walks alone
set_option linter.unusedVariables false
set_option maxHeartbeats 8000000
set_option maxRecDepth 100000
set_option linter.unusedSimpArgs false

mutual
def su.j0:Nat→Int→Bool→List (aF)→Int→ByteArray→ByteArray→Int→Int→ByteArray→Option ((List (aF)) × Int × ByteArray × Int × Bool × List ByteArray)
 | 0,_,_,_,_,_,_,_,_,_=>none
 | k+1,gX,ac,a5,a6,a7,a8,a9,aa,ab=>if ac=true then (su.j1 k 8 a5 a6 a7 a8 a9 aa ab) else (su.j1 k gX a5 a6 a7 a8 a9 aa ab)
def su.j1:Nat→Int→List (aF)→Int→ByteArray→ByteArray→Int→Int→ByteArray→Option ((List (aF)) × Int × ByteArray × Int × Bool × List ByteArray)
 | 0,_,_,_,_,_,_,_,_=>none
 | k+1,gX,a6,a7,a8,a9,aa,ab,ac=>if gX=0 then ((jd.f k a6 a8 (a7 == 2) (⟨#[]⟩:ByteArray)).bind fun ae=>(some (ae,0,(⟨#[]⟩:ByteArray),0,false,([]:List ByteArray)))) else ((qH.f a6).bind fun af=>((lX.f gX).bind fun a5=>(some (af,a5.1,a5.2.1,a5.2.2.1,a5.2.2.2.1,a5.2.2.2.2))))
end
def su.f (k:Nat) (af:Int) (ag:Int) (ae:Int) (aK:Int) (a5:List (aF)) (a8:Int) (a6:ByteArray) (a9:ByteArray) (aa:Int) (ab:Int) (ac:ByteArray):Option ((List (aF)) × Int × ByteArray × Int × Bool × List ByteArray):=(yG.f k a5 a6).bind fun a7=>(if a7=0 then (su.j0 k a7 (decide ((wrap64 ((a5.length:Int)+1)) ≥ ae)) a5 a8 a6 a9 aa ab ac) else (su.j0 k a7 false a5 a8 a6 a9 aa ab ac))
theorem su.calls (k:Nat) (dM:Int) (bh:Int) (b5:Int) (bi:Int) (ap:Option Addr) (aq:Nat) (cO:List (aF)) (ao:Int) (af:ByteArray) (bH:ByteArray) (az:Int) (b0:Int) (b1:ByteArray) (r1:List (aF)) (r2:Int) (r3:ByteArray) (r4:Int) (r5:Bool) (r6:List ByteArray) (w:World) (bx:Kd.C aU w ap cO.length cO) (bz:cO.length≤aq) (h:su.f k dM bh b5 bi cO ao af bH az b0 b1=some (r1,r2,r3,r4,r5,r6)) :
  Calls Tryz.prog 76 #[.agg #[ah dM,ah bh,ah b5,ah bi],.agg #[.slice ap cO.length aq],.agg #[ah ao,.string af,.string bH,ah az,ah b0,.string b1]] w fun e w'=>∃ eP lY:Value,e=.returned (.tuple #[.agg #[eP],.agg #[ah r2,.string r3,ah r4,.bool r5,lY]])∧Kd.R aU 43 w' w.heap.size (fun _=>True) eP r1∧Kd.R Kd.string 9 w' w.heap.size (fun _=>True) lY r6∧Below w.heap.size w w':=by
 have Bq:=underlying25
 have mF:=underlying28
 have Bv:=underlying45
 have xM:=underlying49
 have uf:=underlying43
 have yP:=m_ bx
 have bj:=m_ bz
 clear bx bz
 have HB:=m_ (Below.refl w.heap.size w)
 unfold su.f at h
 have H:=h
 clear h
 obtain ⟨bs,A4,H⟩:=bd_ H
 have d3:=m_ H
 clear H
 go_enter func76,ntmps76
 go_upto_region 2 with (first|((with_reducible refine dJ 3 ?_);(try (refine qL (by rfl) ?_;dsimp only));refine dO 3 (cs:=#[ah dM,ah bh,ah b5,ah bi]) 25 ?_;intro ca hg w6 hbox hb;obtain ⟨HB,a6,de,df⟩:=kL au hb hbox hg;clear hb hbox hg)|((with_reducible refine dJ 4 ?_);(try (refine qL (by rfl) ?_;dsimp only));refine dO 4 (cs:=#[.slice ap cO.length aq]) 28 ?_;intro cc hg w7 hbox hb;obtain ⟨a6,HB,a5,dg,lN,b6,b7⟩:=pq (ak a6) au hb hbox hg;clear hb hbox hg)|((with_reducible refine dJ 5 ?_);(try (refine qL (by rfl) ?_;dsimp only));refine dO 5 (cs:=#[ah ao,.string af,.string bH,ah az,ah b0,.string b1]) 45 ?_;intro cd hg w8 hbox hb;obtain ⟨a6,a5,HB,a8,di,dj,b8,b9,ba,bb⟩:=pU (ak a6) (ak a5) au hb hbox hg;clear hb hbox hg)|((with_reducible refine dJ 6 ?_);(try (refine qL (by rfl) ?_;dsimp only));refine dO 6 (cs:=#[.slice none 0 0]) 28 ?_;intro b2 hg w9 hbox hb;obtain ⟨a6,a5,a8,HB,a7,dk,dl,aa,ab,bc,bd,aK,ai⟩:=vI (ak a6) (ak a5) (ak a8) au hb hbox hg;clear hb hbox hg)|((with_reducible refine dJ 7 ?_);(try (refine qL (by rfl) ?_;dsimp only));refine dO 7 (cs:=#[ah 0,.string (⟨#[]⟩:ByteArray),ah 0,.bool false,.slice none 0 0]) 49 ?_;intro b3 hg ec hbox hb;obtain ⟨a6,a5,a8,a7,HB,a9,dm,lF,ac,ae,be,fA,aN,aQ,al,am⟩:=EU (ak a6) (ak a5) (ak a8) (ak a7) au hb hbox hg;clear hb hbox hg;obtain ⟨ci,cj,ck,cl,cm,cn,co,cp⟩:=iH b7 b6 ba bb bc bd be fA;have Oj:=dh a5.out;obtain ⟨cq,cr,bl,bm,fB,bo⟩:=kJ b9 b8 aK ai aN aQ;have bu:=jK a8.out)|((with_reducible refine bT 14 ?_);refine bU (some 12) rfl rfl func14 aB rfl #[.agg #[.slice ap cO.length aq],.string af] rfl aX ?_;(with_reducible refine (yG.calls k _ _ cO af bs _ pG bj.out A4.out).mono ?_);rintro e ed ⟨rfl,hb⟩;refine ⟨_,rfl,?_⟩;obtain ⟨a6,a5,a8,a7,a9,HB⟩:=oD (ak a6) (ak a5) (ak a8) (ak a7) (ak a9) au hb;(try clear hb)))
 (try simp only [Act.put,List.setIfInBounds_toArray,List.set_cons_zero,List.set_cons_succ])
 go_cut [23] (fun v23 wc=>∃ (kq:Nat) (b4:Bool),v23=.bool b4∧aA (su.j0 kq bs b4 cO ao af bH az b0 b1=some (r1,r2,r3,r4,r5,r6))∧aA (kq≤k)∧aA (wc.heap[ca]?=some (.cells #[ah dM,ah bh,ah b5,ah bi] 25))∧aA (wc.heap[cc]?=some (.cells #[(.slice ap cO.length aq)] 28))∧aA (wc.heap[cd]?=some (.cells #[ah ao,.string af,.string bH,ah az,ah b0,.string b1] 45))∧aA (wc.heap[b2]?=some (.cells #[(.slice none 0 0)] 28))∧aA (wc.heap[b3]?=some (.cells #[ah 0,.string (⟨#[]⟩:ByteArray),ah 0,.bool false,(.slice none 0 0)] 49))∧aA (Below w.heap.size w wc))
 case first =>
  obtain ⟨H⟩:=d3
  revert H;refine fH (fun bv H=>?_) fun bv H=>?_
  rotate_left
  ·have ag:=fP bv
   have bp:=fQ bv
   try simp only [aY,bf,ag]
   have H':=m_ H
   clear H
   go_wp2
   go_meet
   case rel=>exact ⟨_,(false),bg,H',⟨kC⟩,⟨(ak a6)⟩,⟨(ak a5)⟩,⟨(ak a8)⟩,⟨(ak a7)⟩,⟨(ak a9)⟩,⟨au⟩⟩
  have ag:=fZ bv
  have bp:=f_ bv
  clear bv
  try simp only [aY,bf,ag]
  have H':=m_ H
  clear H
  have aA3:=dh a5.out
  obtain ⟨ar,aW,av,aw⟩:=g_ aa ab ac ae
  have bw:=yh a6.out
  go_wp2
  go_meet
  case rel=>exact ⟨_,(decide ((wrap64 ((cO.length:Int)+1)) ≥ b5)),bg,H',⟨kC⟩,⟨(ak a6)⟩,⟨(ak a5)⟩,⟨(ak a8)⟩,⟨(ak a7)⟩,⟨(ak a9)⟩,⟨au⟩⟩
 case rest =>
 clear d3
 try clear Oj;try clear bu;try clear Oj
 obtain ⟨kq,b4,rfl,HA,EG,a6,a5,a8,a7,a9,HB⟩:=hcut
 cases kq with
 | zero=>exact absurd HA.out (by simp [su.j0])
 | succ Hl =>
 obtain ⟨H⟩:=HA
 simp only [su.j0] at H
 have cg:=m_ H
 clear H
 go_upto_if 23 with (fail)
 go_cut [8] (fun v8 wc=>∃ (kq:Nat) (an:Int),v8=ah an∧aA (su.j1 kq an cO ao af bH az b0 b1=some (r1,r2,r3,r4,r5,r6))∧aA (kq≤Hl)∧aA (wc.heap[ca]?=some (.cells #[ah dM,ah bh,ah b5,ah bi] 25))∧aA (wc.heap[cc]?=some (.cells #[(.slice ap cO.length aq)] 28))∧aA (wc.heap[cd]?=some (.cells #[ah ao,.string af,.string bH,ah az,ah b0,.string b1] 45))∧aA (wc.heap[b2]?=some (.cells #[(.slice none 0 0)] 28))∧aA (wc.heap[b3]?=some (.cells #[ah 0,.string (⟨#[]⟩:ByteArray),ah 0,.bool false,(.slice none 0 0)] 49))∧aA (Below w.heap.size w wc))
 case first =>
  obtain ⟨H⟩:=cg
  by_cases ct:b4=true
  ·subst ct
   rw [if_pos rfl] at H
   have H':=m_ H
   clear H
   go_wp2
   go_meet
   case rel=>exact ⟨_,(8),bg,H',⟨(by have:=EG.out;first|omega|exact Nat.le_refl _)⟩,⟨(ak a6)⟩,⟨(ak a5)⟩,⟨(ak a8)⟩,⟨(ak a7)⟩,⟨(ak a9)⟩,⟨au⟩⟩
  replace ct:=Bool.eq_false_iff.mpr ct
  subst ct
  rw [if_neg iI] at H
  have H':=m_ H
  clear H
  go_wp2
  go_meet
  case rel=>exact ⟨_,(bs),bg,H',⟨(by have:=EG.out;first|omega|exact Nat.le_refl _)⟩,⟨(ak a6)⟩,⟨(ak a5)⟩,⟨(ak a8)⟩,⟨(ak a7)⟩,⟨(ak a9)⟩,⟨au⟩⟩
 case rest =>
 clear cg
 obtain ⟨kq,an,rfl,HA,alA,a6,a5,a8,a7,a9,HB⟩:=hcut
 cases kq with
 | zero=>exact absurd HA.out (by simp [su.j1])
 | succ ajg =>
 obtain ⟨H⟩:=HA
 simp only [su.j1] at H
 revert H;refine fH (fun ch H=>?_) fun ch H=>?_
 ·have iO:=fZ ch
  have cv:=f_ ch
  clear ch
  obtain ⟨cw,e6,H⟩:=bd_ H
  simp only [Option.some.injEq,Prod.mk.injEq] at H
  obtain ⟨rfl,rfl,rfl,rfl,rfl,rfl⟩:=H
  have aBd:=dh a5.out
  have e7:=jK a8.out
  go_wp2_with (first|((with_reducible refine bT 90 ?_);refine bU (some 37) rfl rfl func90 aB rfl #[.agg #[.slice ap cO.length aq],.agg #[.string af,.bool (ao == 2),.string (⟨#[]⟩:ByteArray)]] rfl aX ?_;(with_reducible refine (jd.calls ajg _ _ cO af (ao == 2) (⟨#[]⟩:ByteArray) cw _ pG bj.out e6.out).mono ?_);rintro e ee ⟨azY,rfl,ho0,hb⟩;refine ⟨_,rfl,?_⟩;obtain ⟨ce,a6,a5,a8,a7,a9,HB⟩:=p_ (Kd.dI ho0 (cZ au)) <| oD (ak a6) (ak a5) (ak a8) (ak a7) (ak a9) au hb;(try clear hb);(try clear ho0);obtain ⟨d4,d5,d6⟩:=Kd.dK ce.out;subst d6;obtain ⟨aW,ar,bq,br⟩:=g_ ab aa al am;have ak_:=dh a7.out;obtain ⟨aw,av⟩:=gB ae ac;have e8:=kK a9.out))
  refine bodyPost_ret (iR rfl _ _ b2 b3 28 49 #[.slice d4 cw.length d5] #[ah 0,.string (⟨#[]⟩:ByteArray),ah 0,.bool false,.slice none 0 0] (0,0) (0,0) _ _ rfl aT underlying28 rfl aB rfl aT underlying49 rfl aB) rfl ?_
  exact ⟨_,_,bM,(by (with_reducible repeat (first|apply Kd.dB|apply Kd.dD|apply Kd.aZ));exact Kd.bn (aH (aH (aH (aH (aH (aH (Kd.bQ (Kd.bQ ce.out a7.out (by decide)) a9.out (by decide)) (fun _ hk=>hk.1.2))))))) (fun _ hk=>trivial)),kD,au⟩
 have iO:=fP ch
 have cv:=fQ ch
 obtain ⟨cx,e9,H⟩:=bd_ H
 obtain ⟨⟨cy,cz,d0,d1,d2⟩,ea,H⟩:=bd_ H
 simp only [Option.some.injEq,Prod.mk.injEq] at H
 obtain ⟨rfl,rfl,rfl,rfl,rfl,rfl⟩:=H
 have alc:=dh a5.out
 go_wp2_with (first|((with_reducible refine bT 73 ?_);refine bU (some 27) rfl rfl func73 aB rfl #[.agg #[.slice ap cO.length aq]] rfl aX ?_;(with_reducible refine (qH.calls _ _ cO cx _ pG bj.out e9.out).mono ?_);rintro e ef ⟨azZ,rfl,ho0,hb⟩;refine ⟨_,rfl,?_⟩;obtain ⟨ax,a6,a5,a8,a7,a9,HB⟩:=p_ (Kd.dI ho0 (cZ au)) <| oD (ak a6) (ak a5) (ak a8) (ak a7) (ak a9) au hb;(try clear hb);(try clear hk);(try clear ho0))|((with_reducible refine bT 75 ?_);refine bU (some 29) rfl rfl func75 aB rfl #[ah an] rfl aX ?_;(with_reducible refine (lX.calls an cy cz d0 d1 d2 _ ea.out).mono ?_);rintro e eh ⟨az0,rfl,ho0,hb⟩;refine ⟨_,rfl,?_⟩;obtain ⟨ax,cf,a6,a5,a8,a7,a9,HB⟩:=p_ (Kd.dw (aJ ax) hb) <| p_ (Kd.dI ho0 (cZ au)) <| oD (ak a6) (ak a5) (ak a8) (ak a7) (ak a9) au hb;(try clear hb);(try clear ho0);obtain ⟨d7,d8,d9⟩:=Kd.dK ax.out;subst d9;obtain ⟨aW,ar,bm,bl,bq,br⟩:=kJ ab aa ai aK al am;have ale:=dh a7.out;obtain ⟨aw,av,bo,fB⟩:=g_ ae ac aQ aN;have eb:=kK a9.out;obtain ⟨da,db,dd⟩:=Kd.dK cf.out;subst dd))
 refine bodyPost_ret (iR rfl _ _ b2 b3 28 49 #[.slice d7 cx.length d8] #[ah cy,.string cz,ah d0,.bool d1,.slice da d2.length db] (0,0) (0,0) _ _ rfl aT underlying28 rfl aB rfl aT underlying49 rfl aB) rfl ?_
 exact ⟨_,_,bM,(by (with_reducible repeat (first|apply Kd.dB|apply Kd.dD|apply Kd.aZ));exact Kd.bn (aH (aH (aH (aH (aH (aH (Kd.bQ (Kd.bQ ax.out a7.out (by decide)) a9.out (by decide)) (fun _ hk=>hk.1.2))))))) (fun _ hk=>trivial)),(by (with_reducible repeat (first|apply Kd.dB|apply Kd.dD|apply Kd.aZ));exact Kd.bn (aH (aH (aH (aH (aH (aH (Kd.bQ (Kd.bQ cf.out a7.out (by decide)) a9.out (by decide)) (fun _ hk=>hk.1.2))))))) (fun _ hk=>trivial)),au⟩

mutual
def pz.j0:Nat→List ByteArray→List ByteArray→Bool→Option (Bool)
 | 0,_,_,_=>none
 | k+1,x5,x7,a5=>if a5=true then (some false) else (pz.l0 k x5 x7 0)
def pz.l0:Nat→List ByteArray→List ByteArray→Int→Option (Bool)
 | 0,_,_,_=>none
 | k+1,x5,x7,mP=>if mP < (x7.length:Int) then (if 0≤mP then (if mP < (x5.length:Int) then (if (rZ ByteArray.empty x5 mP).toList=(rZ ByteArray.empty x7 mP).toList then (pz.l0 k x5 x7 (wrap64 (mP+1))) else (some false)) else (none)) else (none)) else (some true)
end
def pz.f (k:Nat) (a0:ByteArray) (a1:ByteArray):Option (Bool):=(jk.f k a0).bind fun a5=>((jk.f k a1).bind fun a6=>(if a5.2=0 then (if a6.2=0 then (pz.j0 k a5.1 a6.1 (decide ((a5.1.length:Int)≤(a6.1.length:Int)))) else (pz.j0 k a5.1 a6.1 true)) else (pz.j0 k a5.1 a6.1 true)))
theorem pz.calls (k:Nat) (a0:ByteArray) (a1:ByteArray) (r:Bool) (w:World) (h:pz.f k a0 a1=some r) :
  Calls Tryz.prog 15 #[.string a0,.string a1] w fun e w'=>e=.returned (.bool r)∧Below w.heap.size w w':=by
 have HB:=m_ (Below.refl w.heap.size w)
 unfold pz.f at h
 have H:=h
 clear h
 obtain ⟨⟨a7,ae⟩,A3,H⟩:=bd_ H
 obtain ⟨⟨a6,af⟩,A4,H⟩:=bd_ H
 have ax:=m_ H
 clear H
 go_enter func15,ntmps15
 go_upto_region 3 with (first|(go_at_call 53;(with_reducible refine (jk.calls k a0 a7 ae _ A3.out).mono ?_);rintro e w6 ⟨Ik,rfl,ho0,hb⟩;obtain ⟨xA,HB⟩:=p_ (Kd.dI ho0 (cZ au)) <| a_ (dP au hb);(try clear hb);(try clear ho0))|(go_at_call 53;(with_reducible refine (jk.calls k a1 a6 af _ A4.out).mono ?_);rintro e w7 ⟨Il,rfl,ho0,hb⟩;obtain ⟨xA,KF,HB⟩:=p_ (Kd.jX (aJ xA) (Kd.jo ho0) hb) <| p_ (Kd.dI (Kd.jY ho0 (Kd.jJ (aJ xA))) (cZ au)) <| a_ (dP au hb);(try clear hb);(try clear ho0)))
 repeat (go_quiet (first|(go_at_call 53;(with_reducible refine (jk.calls k a0 a7 ae _ A3.out).mono ?_);rintro e w6 ⟨Ik,rfl,ho0,hb⟩;obtain ⟨xA,HB⟩:=p_ (Kd.dI ho0 (cZ au)) <| a_ (dP au hb);(try clear hb);(try clear ho0))|(go_at_call 53;(with_reducible refine (jk.calls k a1 a6 af _ A4.out).mono ?_);rintro e w7 ⟨Il,rfl,ho0,hb⟩;obtain ⟨xA,KF,HB⟩:=p_ (Kd.jX (aJ xA) (Kd.jo ho0) hb) <| p_ (Kd.dI (Kd.jY ho0 (Kd.jJ (aJ xA))) (cZ au)) <| a_ (dP au hb);(try clear hb);(try clear ho0)));go_upto_region 3 with (first|(go_at_call 53;(with_reducible refine (jk.calls k a0 a7 ae _ A3.out).mono ?_);rintro e w6 ⟨Ik,rfl,ho0,hb⟩;obtain ⟨xA,HB⟩:=p_ (Kd.dI ho0 (cZ au)) <| a_ (dP au hb);(try clear hb);(try clear ho0))|(go_at_call 53;(with_reducible refine (jk.calls k a1 a6 af _ A4.out).mono ?_);rintro e w7 ⟨Il,rfl,ho0,hb⟩;obtain ⟨xA,KF,HB⟩:=p_ (Kd.jX (aJ xA) (Kd.jo ho0) hb) <| p_ (Kd.dI (Kd.jY ho0 (Kd.jJ (aJ xA))) (cZ au)) <| a_ (dP au hb);(try clear hb);(try clear ho0))))
 (try simp only [Act.put,List.setIfInBounds_toArray,List.set_cons_zero,List.set_cons_succ])
 go_cut [32] (fun v32 wc=>∃ (kq:Nat) (ab:Bool),v32=.bool ab∧aA (pz.j0 kq a7 a6 ab=some r)∧aA (kq≤k)∧aA (Kd.R Kd.string 9 wc w.heap.size (fun ay=>some ay≠(Il:Value).ownBlock) Ik a7)∧aA (Kd.R Kd.string 9 wc w.heap.size (fun ay=>some ay≠(Ik:Value).ownBlock) Il a6)∧aA (Below w.heap.size w wc))
 case first =>
  obtain ⟨H⟩:=ax
  revert H;refine fH (fun c8 H=>?_) fun c8 H=>?_
  rotate_left
  ·have aa:=fP c8
   have ai:=fQ c8
   try simp only [aY,bf,aa]
   have H':=m_ H
   clear H
   go_wp2
   repeat (go_quiet (fail);try go_wp2)
   go_meet
   case rel=>exact ⟨_,(true),bg,H',⟨kC⟩,⟨Ul⟩,⟨Uk⟩,⟨au⟩⟩
  have aa:=fZ c8
  have ai:=f_ c8
  clear c8
  try simp only [aY,bf,aa]
  revert H;refine fH (fun c9 H=>?_) fun c9 H=>?_
  rotate_left
  ·have aN:=fP c9
   have aQ:=fQ c9
   have H':=m_ H
   clear H
   go_wp2
   repeat (go_quiet (fail);try go_wp2)
   go_meet
   case rel=>exact ⟨_,(true),bg,H',⟨kC⟩,⟨Ul⟩,⟨Uk⟩,⟨au⟩⟩
  have aN:=fZ c9
  have aQ:=f_ c9
  clear c9
  have H':=m_ H
  clear H
  obtain ⟨ba,bb,bH⟩:=Kd.dK xA.out
  subst bH
  obtain ⟨bc,bd,az⟩:=Kd.dK KF.out
  subst az
  go_wp2
  repeat (go_quiet (fail);try go_wp2)
  go_meet
  case rel=>exact ⟨_,(decide ((a7.length:Int)≤(a6.length:Int))),bg,H',⟨kC⟩,⟨Ul⟩,⟨Uk⟩,⟨au⟩⟩
 case rest =>
 clear ax
 obtain ⟨kq,ab,rfl,HA,EG,dn,ac,HB⟩:=hcut
 cases kq with
 | zero=>exact absurd HA.out (by simp [pz.j0])
 | succ Hl =>
 obtain ⟨H⟩:=HA
 simp only [pz.j0] at H
 by_cases ar:ab=true
 ·subst ar
  rw [if_pos rfl] at H
  obtain rfl:=dF H
  go_wp2
  repeat (go_quiet (fail);try go_wp2)
  go_ret
  exact ⟨bM,au⟩
 replace ar:=Bool.eq_false_iff.mpr ar
 subst ar
 rw [if_neg iI] at H
 have H':=m_ H
 clear H
 go_wp2
 repeat (go_quiet (fail);try go_wp2)
 go_loopg [9] Hl (fun kq v9 w'=>∃ (a5:Int),v9=ah a5∧aA (pz.l0 kq a7 a6 a5=some r)∧aA (kq≤Hl)∧aA (Kd.R Kd.string 9 w' w.heap.size (fun ay=>some ay≠(Il:Value).ownBlock) Ik a7)∧aA (Kd.R Kd.string 9 w' w.heap.size (fun ay=>some ay≠(Ik:Value).ownBlock) Il a6)∧aA (Below w.heap.size w w'))
 case atStart=>exact ⟨(0),bg,H',⟨Nat.le_refl _⟩,⟨(aJ dn)⟩,⟨(aJ ac)⟩,⟨au⟩⟩
 case round =>
 clear H'
 try clear ar
 obtain ⟨a5,rfl,HA,jM,dn,ac,HB⟩:=hrel
 cases gk with
 | zero=>exact absurd HA.out (by simp [pz.l0])
 | succ k2 =>
 obtain ⟨H⟩:=HA
 simp only [pz.l0] at H
 have aW:=m_ H
 clear H
 obtain ⟨be,fA,b0⟩:=Kd.dK ac.out
 subst b0
 go_upto_if 36 with (fail)
 repeat (go_quiet (fail);go_upto_if 36 with (fail))
 obtain ⟨H⟩:=aW
 revert H;refine gJ (fun a8 H=>?_) fun a8 H=>?_
 rotate_left
 ·try simp only [aY,bf,a8]
  obtain rfl:=dF H
  go_wp2
  repeat (go_quiet (fail);try go_wp2)
  go_ret
  exact ⟨bM,au⟩
 try simp only [aY,bf,a8]
 obtain ⟨b5,H⟩:=gK H
 obtain ⟨b7,H⟩:=gK H
 have av:=m_ H
 clear H
 obtain ⟨dM,bh,b1⟩:=Kd.dK dn.out
 subst b1
 have al:0≤(a5:Int):=bF bG
 have am:a5 < (a7.length:Int):=bF bG
 obtain ⟨b8,b2,ag⟩:=Kd.z_ (Kd.dN dn.out).2.2 a5 al am
 cases b2
 replace al:=eq_true al
 replace am:=eq_true am
 have an:0≤(a5:Int):=bF bG
 have ao:a5 < (a6.length:Int):=bF bG
 obtain ⟨b9,b3,aK⟩:=Kd.z_ (Kd.dN ac.out).2.2 a5 an ao
 cases b3
 replace an:=eq_true an
 replace ao:=eq_true ao
 go_upto_if 47 with (fail)
 repeat (go_quiet (fail);go_upto_if 47 with (fail))
 (try clear ag)
 (try clear aK)
 obtain ⟨H⟩:=av
 revert H;refine fH (fun ap H=>?_) fun ap H=>?_
 rotate_left
 ·have a9:=fP ap
  have aw:=fQ ap
  try simp only [aY,bf,a9]
  obtain rfl:=dF H
  go_wp2
  repeat (go_quiet (fail);try go_wp2)
  go_ret
  exact ⟨bM,au⟩
 have a9:=fZ ap
 have aw:=f_ ap
 clear ap
 try simp only [aY,bf,a9]
 have H':=m_ H
 clear H
 go_wp2
 repeat (go_quiet (fail);try go_wp2)
 go_roundg k2
 case measure=>have:=EG.out;have:=jM.out;omega
 case rel=>exact ⟨(wrap64 (a5+1)),bg,H',⟨(by have:=EG.out;have:=jM.out;omega)⟩,⟨(aJ dn)⟩,⟨(aJ ac)⟩,⟨au⟩⟩

end Go.Proofs.YthejdhjpbpamoaaGreatDoor.jD
