/- Contracts of Go functions: each call returns what the Lean function beside it computes. Conditions: as each theorem states them. -/
import Derived.Test.YthejdhjpbpamoaaGreatDoorPkFnCodes
import Derived.Test.YthejdhjpbpamoaaGreatDoorPFnCodesx1
import Derived.Test.YthejdhjpbpamoaaGreatDoorPFnCodesx5
import Derived.Test.YthejdhjpbpamoaaGreatDoorPFnCodesx6
import Derived.Test.YthejdhjpbpamoaaGreatDoorPFnCodesx10
import Derived.Test.YthejdhjpbpamoaaGreatDoorPFnCodesx3
namespace Go.Proofs.YthejdhjpbpamoaaGreatDoor.jD
open Go.RowKit Go.Proofs.YthejdhjpbpamoaaGreatDoorW.iw Go.Proofs.YthejdhjpbpamoaaGreatDoorW.lH Go.Proofs.YthejdhjpbpamoaaGreatDoorW.oO Go.Proofs.Tryz
attribute [local go_sem] qw qB qA qF qy qE qx qC   -- for this text's walks alone
set_option linter.unusedVariables false
set_option maxHeartbeats 8000000
set_option maxRecDepth 100000
set_option linter.unusedSimpArgs false

mutual
def oV.j0:Nat→Int→Bool→Int→Int→Int→Int→List (aF)→Int→ByteArray→ByteArray→Int→Int→ByteArray→ByteArray→Bool→ByteArray→Option ((List (aF)) × Int × ByteArray × Int × Bool × List ByteArray)
 | 0,_,_,_,_,_,_,_,_,_,_,_,_,_,_,_,_=>none
 | k+1,x4,aQ,a5,a6,a7,a8,a9,aa,ab,ac,ae,af,ag,aK,ai,aN=>if aQ=true then (oV.j1 k 0 a5 a6 a7 a8 a9 aa ab ac ae af ag aK ai aN) else (oV.j1 k x4 a5 a6 a7 a8 a9 aa ab ac ae af ag aK ai aN)
def oV.j1:Nat→Int→Int→Int→Int→Int→List (aF)→Int→ByteArray→ByteArray→Int→Int→ByteArray→ByteArray→Bool→ByteArray→Option ((List (aF)) × Int × ByteArray × Int × Bool × List ByteArray)
 | 0,_,_,_,_,_,_,_,_,_,_,_,_,_,_,_=>none
 | k+1,x4,a8,a9,aa,ab,a7,ac,a5,a6,ae,af,ag,aK,ai,aN=>if a5.toList=([47]:List UInt8) then ((nI.f k a7 a5 a6).bind fun aQ=>(some (aQ,9,(⟨#[]⟩:ByteArray),0,false,([]:List ByteArray)))) else ((DV.f k a6 a5).bind fun al=>(if al=true then ((nI.f k a7 a5 a6).bind fun am=>(some (am,11,(⟨#[]⟩:ByteArray),0,false,([]:List ByteArray)))) else ((nI.f k a7 a5 a6).bind fun an=>(some (an,x4,(⟨#[]⟩:ByteArray),0,false,([]:List ByteArray))))))
end
def oV.f (k:Nat) (ae:Int) (af:Int) (ag:Int) (aK:Int) (aa:List (aF)) (ai:Int) (ab:ByteArray) (a5:ByteArray) (aN:Int) (aQ:Int) (a6:ByteArray) (a7:ByteArray) (a8:Bool) (a9:ByteArray):Option ((List (aF)) × Int × ByteArray × Int × Bool × List ByteArray):=(xO.f k aa a5).bind fun ac=>(if ac=7 then ((wX.f k ab).bind fun al=>((wX.f k a5).bind fun am=>(oV.j0 k ac (al.toList == am.toList) ae af ag aK aa ai ab a5 aN aQ a6 a7 a8 a9))) else (oV.j0 k ac false ae af ag aK aa ai ab a5 aN aQ a6 a7 a8 a9))
def oV.T2:Bool × List (List Nat × List Nat):=(true,[([],[]),([0],[0]),([1],[1]),([2],[2]),([3,2],[2,3]),([4,2],[2,4]),([5,2,2],[2,5]),([2],[2]),([7,2],[2,7]),([8,2],[2,8]),([9,6,2],[2,9]),([6,10,2],[2,6,10]),([2,11],[2,11])])
def oV.B2:List Nat:=[0,1,3,7,15,31,63,7,135,391,1023,2047,4095]
theorem oV.aae:kZ .any (opsOf Tryz.f117 2)=oV.T2:=by kernel_rfl
theorem oV.Vy:uS oV.T2.2 oV.B2=true:=by kernel_rfl
theorem oV.calls (k:Nat) (ar:Int) (aW:Int) (av:Int) (aw:Int) (eu:Option Addr) (d_:Nat) (bW:List (aF)) (ax:Int) (aN:ByteArray) (a9:ByteArray) (bH:Int) (az:Int) (am:ByteArray) (an:ByteArray) (ao:Bool) (ap:ByteArray) (r1:List (aF)) (r2:Int) (r3:ByteArray) (r4:Int) (r5:Bool) (r6:List ByteArray) (w:World) (jV:iK w) (bb:Kd.C aU w eu bW.length bW) (bc:bW.length≤d_) (h:oV.f k ar aW av aw bW ax aN a9 bH az am an ao ap=some (r1,r2,r3,r4,r5,r6)) :
  Calls Tryz.prog 117 #[.agg #[ah ar,ah aW,ah av,ah aw,.slice eu bW.length d_,ah ax,.string aN,.string a9,ah bH,ah az,.string am,.string an,.bool ao,.string ap]] w fun e w'=>∃ eP lY:Value,e=.returned (.tuple #[.agg #[eP],.agg #[ah r2,.string r3,ah r4,.bool r5,lY]])∧Kd.R aU 43 w' w.heap.size (fun _=>True) eP r1∧Kd.R Kd.string 9 w' w.heap.size (fun _=>True) lY r6∧Below w.heap.size w w':=by
 have DT:=underlying90
 have mF:=underlying28
 have xM:=underlying49
 have OU:=m_ bb
 have b5:=m_ bc
 clear bb bc
 have HD:=m_ jV
 clear jV
 have HB:=m_ (Below.refl w.heap.size w)
 unfold oV.f at h
 have H:=h
 clear h
 obtain ⟨b9,A2,H⟩:=bd_ H
 have bv:=m_ H
 clear H
 go_enter func117,ntmps117
 go_upto_region 2 with (first|((with_reducible refine dJ 1 ?_);refine dO 1 (cs:=#[ah ar,ah aW,ah av,ah aw,.slice eu bW.length d_,ah ax,.string aN,.string a9,ah bH,ah az,.string am,.string an,.bool ao,.string ap]) 90 ?_;intro a8 hg w4 hbox hb;obtain ⟨HB,a5,ch,ci⟩:=kL au hb hbox hg;clear hb hbox hg)|((with_reducible refine dJ 2 ?_);refine dO 2 (cs:=#[.slice none 0 0]) 28 ?_;intro b0 hg w5 hbox hb;obtain ⟨a5,HB,a6,cj,ck,aa,ab⟩:=pq (ak a5) au hb hbox hg;clear hb hbox hg)|((with_reducible refine dJ 3 ?_);refine dO 3 (cs:=#[ah 0,.string (⟨#[]⟩:ByteArray),ah 0,.bool false,.slice none 0 0]) 49 ?_;intro b1 hg w6 hbox hb;obtain ⟨a5,a6,HB,a7,cl,cm,ac,ae,aQ,al⟩:=pU (ak a5) (ak a6) au hb hbox hg;clear hb hbox hg;obtain ⟨af,ag,aK,ai⟩:=g_ aa ab ac ae;obtain ⟨QX,QY,Q9,Q_,Rf,Rh,Ri,Rj,Rk,Rl,QZ,Q5,Q7,Q8⟩:=iq a5.out;obtain ⟨Sm,Sr,SC,SE,SG,SH,SI,SK,SL,SN,Sv,Sz,SA,SB⟩:=jA a5.out)|((with_reducible refine bT 24 ?_);refine bU (some 10) rfl rfl func24 aB rfl #[.agg #[.slice eu bW.length d_],.string a9] rfl aX ?_;(with_reducible refine (xO.calls k _ _ bW a9 b9 _ (iK.below HD.out au) vN b5.out A2.out).mono ?_);rintro e cn ⟨rfl,hb⟩;refine ⟨_,rfl,?_⟩;obtain ⟨a5,a6,a7,HB⟩:=lD (ak a5) (ak a6) (ak a7) au hb;(try clear hb)))
 (try simp only [Act.put,List.setIfInBounds_toArray,List.set_cons_zero,List.set_cons_succ])
 go_cut [23] (fun v23 wc=>∃ (kq:Nat) (b6:Bool),v23=.bool b6∧aA (oV.j0 kq b9 b6 ar aW av aw bW ax aN a9 bH az am an ao ap=some (r1,r2,r3,r4,r5,r6))∧aA (kq≤k)∧aA (wc.heap[a8]?=some (.cells #[ah ar,ah aW,ah av,ah aw,(.slice eu bW.length d_),ah ax,.string aN,.string a9,ah bH,ah az,.string am,.string an,.bool ao,.string ap] 90))∧aA (wc.heap[b0]?=some (.cells #[(.slice none 0 0)] 28))∧aA (wc.heap[b1]?=some (.cells #[ah 0,.string (⟨#[]⟩:ByteArray),ah 0,.bool false,(.slice none 0 0)] 49))∧aA (Below w.heap.size w wc))
 case first =>
  obtain ⟨H⟩:=bv
  revert H;refine fH (fun ba H=>?_) fun ba H=>?_
  rotate_left
  ·have aq:=fP ba
   have b8:=fQ ba
   try simp only [aY,bf,aq]
   have H':=m_ H
   clear H
   try go_wp2
   obtain ⟨a5,a6,a7,HB⟩:=yU a5 a6 a7 HB
   refine iT (n:=13) (S:=fun w'=>True) (ds:=[]) Dh aB rfl rfl trivial (fun hH=>?_);refine kE oV.aae oV.Vy (fun aO fJ=>?_)
   generalize cn.drew=cy at a5 a6 a7 HB hH ⊢
   refine bV 0 ?_
   refine bV 1 ?_
   refine bV 2 ?_
   refine jW 3 ?_
   refine jW 4 ?_
   refine jW 5 ?_
   refine jW 6 ?_
   refine jW 7 ?_
   refine jW 8 ?_
   refine jW 9 ?_
   refine jW 10 ?_
   refine jW 11 ?_
   refine bV 12 ?_
   refine iP (ku aO.out aB) ?_
   try go_wp2
   go_meet
   case rel=>exact ⟨_,(false),bg,H',⟨kC⟩,⟨(ak a5)⟩,⟨(ak a6)⟩,⟨(ak a7)⟩,⟨au⟩⟩
  have aq:=fZ ba
  have b8:=f_ ba
  clear ba
  try simp only [aY,bf,aq]
  obtain ⟨bi,co,H⟩:=bd_ H
  obtain ⟨bj,cp,H⟩:=bd_ H
  have H':=m_ H
  clear H
  try go_wp2
  obtain ⟨a5,a6,a7,HB⟩:=yU a5 a6 a7 HB
  refine iT (n:=13) (S:=fun w'=>AZ w' a8 (ah ar) (ah aW) (ah av) (ah aw) (.slice eu bW.length d_) (ah ax) (.string aN) (.string a9) (ah bH) (ah az) (.string am) (.string an) (.bool ao) (.string ap)) (ds:=[]) Dh aB rfl rfl (iq a5.out) (fun hH=>?_);refine kE oV.aae oV.Vy (fun aO fJ=>?_)
  generalize cn.drew=cz at a5 a6 a7 HB hH ⊢
  refine bV 0 ?_
  refine bV 1 ?_
  refine bV 2 ?_
  refine bV 3 ?_
  refine bV 4 ?_
  refine cu 7 18 #[aj,aj,aj,aj,aj,F_,F_,aj,F_,F_,F_,F_,F_] aO ?_
  refine cu 8 19 #[aj,aj,aj,aj,aj,F_,F_,aj,aj,F_,F_,F_,F_] aO ?_
  refine jZ 5 16 #[aj,aj,aj,aj,aj,aj,F_,aj,aj,F_,F_,F_,F_] aO fJ hH ?_
  refine jZ 9 20 #[aj,aj,aj,aj,aj,aj,F_,aj,aj,aj,F_,F_,F_] aO fJ hH ?_
  refine oZ 6 (fun K hK=>?_)
  refine i_ func59 aB rfl #[.string aN] (by rfl) rfl rfl aX ?_
  with_reducible refine (wX.calls k aN bi _ (iK.below HD.out au) co.out).mono ?_
  rintro e d0 ⟨rfl,hb⟩
  refine ⟨_,rfl,?_⟩
  obtain ⟨a5,a6,a7,HB⟩:=lD (ak a5) (ak a6) (ak a7) au hb
  (try clear hb)
  refine hK.out _ _ (iq a5.out) (fun hH=>?_)
  clear hK K
  refine eX (some 17) ?_
  refine oZ 10 (fun K hK=>?_)
  refine i_ func59 aB rfl #[.string a9] (by rfl) rfl rfl aX ?_
  with_reducible refine (wX.calls k a9 bj _ (iK.below HD.out au) cp.out).mono ?_
  rintro e d1 ⟨rfl,hb⟩
  refine ⟨_,rfl,?_⟩
  obtain ⟨a5,a6,a7,HB⟩:=lD (ak a5) (ak a6) (ak a7) au hb
  (try clear hb)
  refine hK.out _ _ (iq a5.out) (fun hH=>?_)
  clear hK K
  refine eX (some 21) ?_
  refine bV 11 ?_
  refine bV 12 ?_
  refine iP (ku aO.out aB) ?_
  try go_wp2
  go_meet
  case rel=>exact ⟨_,((bi.toList == bj.toList)),bg,H',⟨kC⟩,⟨(ak a5)⟩,⟨(ak a6)⟩,⟨(ak a7)⟩,⟨au⟩⟩
 case rest =>
 clear bv
 try clear QX;try clear QY;try clear QZ;try clear Q5;try clear Q7;try clear Q8;try clear Q9;try clear Q_;try clear Rf;try clear Rh;try clear Ri;try clear Rj;try clear Rk;try clear Rl;try clear Sm;try clear Sr;try clear Sv;try clear Sz;try clear SA;try clear SB;try clear SC;try clear SE;try clear SG;try clear SH;try clear SI;try clear SK;try clear SL;try clear SN
 obtain ⟨kq,b6,rfl,HA,HJ2,a5,a6,a7,HB⟩:=hcut
 cases kq with
 | zero=>exact absurd HA.out (by simp [oV.j0])
 | succ BG =>
 obtain ⟨H⟩:=HA
 simp only [oV.j0] at H
 have dM:=m_ H
 clear H
 go_upto_if 23 with (fail)
 go_cut [4] (fun v4 wc=>∃ (kq:Nat) (b7:Int),v4=ah b7∧aA (oV.j1 kq b7 ar aW av aw bW ax aN a9 bH az am an ao ap=some (r1,r2,r3,r4,r5,r6))∧aA (kq≤BG)∧aA (wc.heap[a8]?=some (.cells #[ah ar,ah aW,ah av,ah aw,(.slice eu bW.length d_),ah ax,.string aN,.string a9,ah bH,ah az,.string am,.string an,.bool ao,.string ap] 90))∧aA (wc.heap[b0]?=some (.cells #[(.slice none 0 0)] 28))∧aA (wc.heap[b1]?=some (.cells #[ah 0,.string (⟨#[]⟩:ByteArray),ah 0,.bool false,(.slice none 0 0)] 49))∧aA (Below w.heap.size w wc))
 case first =>
  obtain ⟨H⟩:=dM
  by_cases bl:b6=true
  ·subst bl
   rw [if_pos rfl] at H
   have H':=m_ H
   clear H
   go_wp2
   go_meet
   case rel=>exact ⟨_,(0),bg,H',⟨(by have:=HJ2.out;first|omega|exact Nat.le_refl _)⟩,⟨(ak a5)⟩,⟨(ak a6)⟩,⟨(ak a7)⟩,⟨au⟩⟩
  replace bl:=Bool.eq_false_iff.mpr bl
  subst bl
  rw [if_neg iI] at H
  have H':=m_ H
  clear H
  go_wp2
  go_meet
  case rel=>exact ⟨_,(b9),bg,H',⟨(by have:=HJ2.out;first|omega|exact Nat.le_refl _)⟩,⟨(ak a5)⟩,⟨(ak a6)⟩,⟨(ak a7)⟩,⟨au⟩⟩
 case rest =>
 clear dM
 obtain ⟨kq,b7,rfl,HA,alx,a5,a6,a7,HB⟩:=hcut
 cases kq with
 | zero=>exact absurd HA.out (by simp [oV.j1])
 | succ Np =>
 obtain ⟨H⟩:=HA
 simp only [oV.j1] at H
 have bm:=m_ H
 clear H
 obtain ⟨adQ,adR,adW,adX,adY,adZ,ad1,ad2,ad3,ad4,adS,adT,adU,adV⟩:=iq a5.out
 obtain ⟨agy,agz,agE,agF,agG,agH,agI,agJ,agK,agL,agA,agB,agC,agD⟩:=jA a5.out
 go_upto_if 24 with (fail)
 (try clear af aK ag ai)
 (try clear adQ adR adS adT adU adV adW adX adY adZ ad1 ad2 ad3 ad4)
 (try clear agy agz agA agB agC agD agE agF agG agH agI agJ agK agL)
 obtain ⟨H⟩:=bm
 revert H;refine fH (fun bh H=>?_) fun bh H=>?_
 ·have b2:=fZ bh
  have fB:=f_ bh
  clear bh
  try simp only [aY,bf,b2]
  obtain ⟨bo,cq,H⟩:=bd_ H
  simp only [Option.some.injEq,Prod.mk.injEq] at H
  obtain ⟨rfl,rfl,rfl,rfl,rfl,rfl⟩:=H
  obtain ⟨af,ag,aK,ai⟩:=g_ aa ab ac ae
  obtain ⟨X0,X3,X8,X9,X_,Ya,Yb,Yc,Yd,Ye,X4,X5,X6,X7⟩:=iq a5.out
  obtain ⟨Yw,Yx,YC,YD,YE,YF,YG,YH,YI,YJ,Yy,Yz,YA,YB⟩:=jA a5.out
  go_wp2_with (first|((with_reducible refine bT 9 ?_);refine bU (some 45) rfl rfl func9 aB rfl #[.agg #[.slice eu bW.length d_],.string aN,.string a9] rfl aX ?_;(with_reducible refine (nI.calls Np _ _ bW aN a9 bo _ (iK.below HD.out au) vN b5.out cq.out).mono ?_);rintro e d2 ⟨azz,rfl,ho0,hb⟩;refine ⟨_,rfl,?_⟩;obtain ⟨bd,a5,a6,a7,HB⟩:=p_ (Kd.dI ho0 (cZ au)) <| lD (ak a5) (ak a6) (ak a7) au hb;(try clear hb);(try clear ho0);obtain ⟨bw,bx,bz⟩:=Kd.dK bd.out;subst bz;obtain ⟨b3,b4⟩:=gB aQ al;have aaU:=dh a6.out;have cr:=kK a7.out))
  refine bodyPost_ret (iR rfl _ _ b0 b1 28 49 #[.slice bw bo.length bx] #[ah 9,.string (⟨#[]⟩:ByteArray),ah 0,.bool false,.slice none 0 0] (0,0) (0,0) _ _ rfl aT underlying28 rfl aB rfl aT underlying49 rfl aB) rfl ?_
  exact ⟨_,_,bM,(by (with_reducible repeat (first|apply Kd.dB|apply Kd.dD|apply Kd.aZ));exact Kd.bn (aH (aH (aH (aH (aH (aH (Kd.bQ (Kd.bQ bd.out a6.out (by decide)) a7.out (by decide)) (fun _ hk=>hk.1.2))))))) (fun _ hk=>trivial)),kD,au⟩
 have b2:=fP bh
 have fB:=fQ bh
 try simp only [aY,bf,b2]
 obtain ⟨bp,ct,H⟩:=bd_ H
 have bq:=m_ H
 clear H
 obtain ⟨af,ag,aK,ai⟩:=g_ aa ab ac ae
 obtain ⟨LK,LM,LW,LX,LY,LZ,L6,L8,L9,L_,LP,LQ,LU,LV⟩:=iq a5.out
 obtain ⟨Mc,Md,MG,MH,MI,MJ,MK,ML,MN,MO,Me,MB,MC,MF⟩:=jA a5.out
 go_upto_if 29 with (first|((with_reducible refine bT 46 ?_);refine bU (some 36) rfl rfl func46 aB rfl #[.string a9,.string aN] rfl aX ?_;(with_reducible refine (DV.calls Np a9 aN bp _ (iK.below HD.out au) ct.out).mono ?_);rintro e d3 ⟨rfl,hb⟩;refine ⟨_,rfl,?_⟩;obtain ⟨a5,a6,a7,HB⟩:=lD (ak a5) (ak a6) (ak a7) au hb;(try clear hb)))
 (try simp only [Act.put,List.setIfInBounds_toArray,List.set_cons_zero,List.set_cons_succ])
 (try clear af aK ag ai)
 (try clear LK LM LP LQ LU LV LW LX LY LZ L6 L8 L9 L_)
 (try clear Mc Md Me MB MC MF MG MH MI MJ MK ML MN MO)
 obtain ⟨H⟩:=bq
 by_cases bu:bp=true
 ·subst bu
  rw [if_pos rfl] at H
  obtain ⟨br,iO,H⟩:=bd_ H
  simp only [Option.some.injEq,Prod.mk.injEq] at H
  obtain ⟨rfl,rfl,rfl,rfl,rfl,rfl⟩:=H
  obtain ⟨anG,anH,anM,anN,anO,anP,anQ,anR,anS,anT,anI,anJ,anK,anL⟩:=iq a5.out
  obtain ⟨atN,atO,atU,atV,atW,atX,atY,atZ,at1,at6,atP,atQ,atS,atT⟩:=jA a5.out
  go_wp2_with (first|((with_reducible refine bT 9 ?_);refine bU (some 45) rfl rfl func9 aB rfl #[.agg #[.slice eu bW.length d_],.string aN,.string a9] rfl aX ?_;(with_reducible refine (nI.calls Np _ _ bW aN a9 br _ (iK.below HD.out au) vN b5.out iO.out).mono ?_);rintro e d4 ⟨azA,rfl,ho0,hb⟩;refine ⟨_,rfl,?_⟩;obtain ⟨be,a5,a6,a7,HB⟩:=p_ (Kd.dI ho0 (cZ au)) <| lD (ak a5) (ak a6) (ak a7) au hb;(try clear hb);(try clear ho0);obtain ⟨ca,cc,cd⟩:=Kd.dK be.out;subst cd;obtain ⟨b3,b4⟩:=gB aQ al;have ak_:=dh a6.out;have cv:=kK a7.out))
  refine bodyPost_ret (iR rfl _ _ b0 b1 28 49 #[.slice ca br.length cc] #[ah 11,.string (⟨#[]⟩:ByteArray),ah 0,.bool false,.slice none 0 0] (0,0) (0,0) _ _ rfl aT underlying28 rfl aB rfl aT underlying49 rfl aB) rfl ?_
  exact ⟨_,_,bM,(by (with_reducible repeat (first|apply Kd.dB|apply Kd.dD|apply Kd.aZ));exact Kd.bn (aH (aH (aH (aH (aH (aH (Kd.bQ (Kd.bQ be.out a6.out (by decide)) a7.out (by decide)) (fun _ hk=>hk.1.2))))))) (fun _ hk=>trivial)),kD,au⟩
 replace bu:=Bool.eq_false_iff.mpr bu
 subst bu
 rw [if_neg iI] at H
 obtain ⟨bs,cw,H⟩:=bd_ H
 simp only [Option.some.injEq,Prod.mk.injEq] at H
 obtain ⟨rfl,rfl,rfl,rfl,rfl,rfl⟩:=H
 obtain ⟨ae0,ae1,ae6,ae7,ae8,ae9,ae_,ae',afa,afb,ae2,ae3,ae4,ae5⟩:=iq a5.out
 obtain ⟨ahE,ahF,ahK,ahL,ahM,ahN,ahO,ahP,ahQ,ahR,ahG,ahH,ahI,ahJ⟩:=jA a5.out
 go_wp2_with (first|((with_reducible refine bT 9 ?_);refine bU (some 45) rfl rfl func9 aB rfl #[.agg #[.slice eu bW.length d_],.string aN,.string a9] rfl aX ?_;(with_reducible refine (nI.calls Np _ _ bW aN a9 bs _ (iK.below HD.out au) vN b5.out cw.out).mono ?_);rintro e d5 ⟨azB,rfl,ho0,hb⟩;refine ⟨_,rfl,?_⟩;obtain ⟨fA,a5,a6,a7,HB⟩:=p_ (Kd.dI ho0 (cZ au)) <| lD (ak a5) (ak a6) (ak a7) au hb;(try clear hb);(try clear ho0);obtain ⟨ce,cf,cg⟩:=Kd.dK fA.out;subst cg;obtain ⟨b3,b4⟩:=gB aQ al;have alc:=dh a6.out;have cx:=kK a7.out))
 refine bodyPost_ret (iR rfl _ _ b0 b1 28 49 #[.slice ce bs.length cf] #[ah b7,.string (⟨#[]⟩:ByteArray),ah 0,.bool false,.slice none 0 0] (0,0) (0,0) _ _ rfl aT underlying28 rfl aB rfl aT underlying49 rfl aB) rfl ?_
 exact ⟨_,_,bM,(by (with_reducible repeat (first|apply Kd.dB|apply Kd.dD|apply Kd.aZ));exact Kd.bn (aH (aH (aH (aH (aH (aH (Kd.bQ (Kd.bQ fA.out a6.out (by decide)) a7.out (by decide)) (fun _ hk=>hk.1.2))))))) (fun _ hk=>trivial)),kD,au⟩

def Az.f (ac:Int) (ae:Int) (af:Int) (ag:Int) (a7:List (aF)) (aK:Int) (ai:ByteArray) (aN:ByteArray) (a6:Int) (a8:Int) (aa:ByteArray) (ab:ByteArray) (a9:Bool) (a5:ByteArray):Option ((List (aF)) × Int × ByteArray × Int × Bool × List ByteArray):=if a9=true then (some (a7,5,(⟨#[]⟩:ByteArray),0,false,([]:List ByteArray))) else (if a6 < 0 then (some (a7,12,(⟨#[]⟩:ByteArray),0,false,([]:List ByteArray))) else (if a8 < 0 then (some (a7,12,(⟨#[]⟩:ByteArray),0,false,([]:List ByteArray))) else (if 0≤(mn a6 (a5.size:Int)) then (if (mn a6 (a5.size:Int))≤(a5.size:Int) then (if 0≤(mn a8 ((a5.extract ((mn a6 (a5.size:Int)):Int).toNat a5.size).size:Int)) then (if (mn a8 ((a5.extract ((mn a6 (a5.size:Int)):Int).toNat a5.size).size:Int))≤((a5.extract ((mn a6 (a5.size:Int)):Int).toNat a5.size).size:Int) then (some (a7,0,(a5.extract ((mn a6 (a5.size:Int)):Int).toNat a5.size).extract 0 ((mn a8 ((a5.extract ((mn a6 (a5.size:Int)):Int).toNat a5.size).size:Int)):Int).toNat,0,false,([]:List ByteArray))) else (none)) else (none)) else (none)) else (none))))
def Az.T6:Bool × List (List Nat × List Nat):=(true,[([],[]),([0],[0]),([],[]),([],[]),([3],[3]),([4],[4]),([],[]),([6],[6]),([5,7],[5,7]),([2,8],[2,8]),([9],[9]),([1,0,1],[1]),([10,11,0,1,2,3,4,5,6,7,8,9,10,11],[10])])
def Az.B6:List Nat:=[0,1,0,0,8,24,0,64,248,508,1020,3,4095]
theorem Az.calls (aw:Int) (ax:Int) (bH:Int) (az:Int) (nX:Nat→Prop) (eu:Option Addr) (d_:Nat) (bW:List (aF)) (b0:Int) (b1:ByteArray) (b2:ByteArray) (ao:Int) (al:Int) (ar:ByteArray) (aW:ByteArray) (av:Bool) (a7:ByteArray) (r1:List (aF)) (r2:Int) (r3:ByteArray) (r4:Int) (r5:Bool) (r6:List ByteArray) (w:World) (DR:Kd.V aU 43 w w.heap.size (fun ay=>nX ay) (.slice eu bW.length d_) bW) (h:Az.f aw ax bH az bW b0 b1 b2 ao al ar aW av a7=some (r1,r2,r3,r4,r5,r6)) :
  Calls Tryz.prog 118 #[.agg #[ah aw,ah ax,ah bH,ah az,.slice eu bW.length d_,ah b0,.string b1,.string b2,ah ao,ah al,.string ar,.string aW,.bool av,.string a7]] w fun e w'=>∃ eP lY:Value,e=.returned (.tuple #[.agg #[eP],.agg #[ah r2,.string r3,ah r4,.bool r5,lY]])∧Kd.V aU 43 w' w.heap.size (fun ay=>(nX ay∨w.heap.size≤ay)∧some ay≠(lY:Value).ownBlock) eP r1∧Kd.R Kd.string 9 w' w.heap.size (fun ay=>(w.heap.size≤ay)) lY r6∧Below w.heap.size w w':=by
 have DT:=underlying90
 have mF:=underlying28
 have xM:=underlying49
 have lK:=m_ (show Kd.V aU 43 w w.heap.size (fun ay=>(nX ay∨w.heap.size≤ay)) (.slice eu bW.length d_) bW from Kd.iL DR (fun ay hk=>.inl hk))
 have HB:=m_ (Below.refl w.heap.size w)
 unfold Az.f at h
 have H:=h
 clear h
 have bb:=m_ H
 clear H
 go_enter func118,ntmps118
 go_upto_if 5 with (first|((with_reducible refine dJ 1 ?_);refine dO 1 (cs:=#[ah aw,ah ax,ah bH,ah az,.slice eu bW.length d_,ah b0,.string b1,.string b2,ah ao,ah al,.string ar,.string aW,.bool av,.string a7]) 90 ?_;intro ac hg w3 hbox hb;obtain ⟨lK,HB,a8,bc,bd⟩:=p_ (Kd.sV (Kd.vT wK ac (Nat.le_of_eq hg.symm)) hb) <| kL au hb hbox hg;clear hb hbox hg)|((with_reducible refine dJ 2 ?_);refine dO 2 (cs:=#[.slice none 0 0]) 28 ?_;intro yt hg w4 hbox hb;obtain ⟨lK,a8,HB,ae,be,fA,a6,aa⟩:=p_ (Kd.sV (Kd.vT wK yt (Nat.le_of_eq hg.symm)) hb) <| pq (ak a8) au hb hbox hg;clear hb hbox hg)|((with_reducible refine dJ 3 ?_);refine dO 3 (cs:=#[ah 0,.string (⟨#[]⟩:ByteArray),ah 0,.bool false,.slice none 0 0]) 49 ?_;intro oQ hg w5 hbox hb;obtain ⟨lK,a8,ae,HB,a9,dM,bh,a5,ab,aN,aQ⟩:=p_ (Kd.sV (Kd.vT wK oQ (Nat.le_of_eq hg.symm)) hb) <| pU (ak a8) (ak ae) au hb hbox hg;clear hb hbox hg;obtain ⟨af,ag,aK,ai⟩:=g_ a6 aa a5 ab;obtain ⟨QG,QH,QM,QN,QO,QS,QT,QU,QV,QW,QI,QJ,QK,QL⟩:=iq a8.out;obtain ⟨RJ,RN,RV,RX,RY,RZ,R_,Si,Sj,Sl,RP,RQ,RS,RU⟩:=jA a8.out))
 (try simp only [Act.put,List.setIfInBounds_toArray,List.set_cons_zero,List.set_cons_succ])
 (try clear af aK ag ai)
 (try clear QG QH QI QJ QK QL QM QN QO QS QT QU QV QW)
 (try clear RJ RN RP RQ RS RU RV RX RY RZ R_ Si Sj Sl)
 obtain ⟨H⟩:=bb
 by_cases c9:av=true
 ·subst c9
  rw [if_pos rfl] at H
  simp only [Option.some.injEq,Prod.mk.injEq] at H
  obtain ⟨rfl,rfl,rfl,rfl,rfl,rfl⟩:=H
  obtain ⟨af,ag,aK,ai⟩:=g_ a6 aa a5 ab
  obtain ⟨E8,E9,Fg,Fh,Fj,Fp,Fq,Fv,Fz,FB,E_,Fa,Fb,Fe⟩:=iq a8.out
  obtain ⟨FZ,F5,Gf,Gg,Gh,Gi,Gj,Gl,Gm,Gn,F6,F7,F8,F9⟩:=jA a8.out
  obtain ⟨am,an⟩:=gB aN aQ
  have Kr:=dh ae.out
  have br:=kK a9.out
  go_wp2
  refine bodyPost_ret (iR rfl _ _ yt oQ 28 49 #[.slice eu bW.length d_] #[ah 5,.string (⟨#[]⟩:ByteArray),ah 0,.bool false,.slice none 0 0] (0,0) (0,0) _ _ rfl aT underlying28 rfl aB rfl aT underlying49 rfl aB) rfl ?_
  exact ⟨_,_,bM,(by (with_reducible repeat (first|apply Kd.qh|apply Kd.qj|apply Kd.mQ));exact Kd.iL (Kd.fF (p:=⟨oQ,4,none⟩) (Kd.fF (p:=⟨oQ,3,none⟩) (Kd.fF (p:=⟨oQ,2,none⟩) (Kd.fF (p:=⟨oQ,1,none⟩) (Kd.fF (p:=⟨oQ,0,none⟩) (Kd.fF (p:=⟨yt,0,none⟩) (Kd.iL (Kd.iL lK.out (fun ay hk=>(⟨hk,hk.1.2⟩:_∧ay≠yt))) (fun ay hk=>(⟨hk,hk.1.2⟩:_∧ay≠oQ))) (fun _ hk=>hk.1.2) (.slice eu bW.length d_)) (fun _ hk=>hk.2) (ah 5)) (fun _ hk=>hk.2) (.string (⟨#[]⟩:ByteArray))) (fun _ hk=>hk.2) (ah 0)) (fun _ hk=>hk.2) (.bool false)) (fun _ hk=>hk.2) (.slice none 0 0)) (fun _ hk=>⟨hk.1.1.1.1.1,yJ⟩)),kD,au⟩
 replace c9:=Bool.eq_false_iff.mpr c9
 subst c9
 rw [if_neg iI] at H
 revert H;refine gJ (fun ap H=>?_) fun ap H=>?_
 ·try simp only [aY,bf,ap]
  simp only [Option.some.injEq,Prod.mk.injEq] at H
  obtain ⟨rfl,rfl,rfl,rfl,rfl,rfl⟩:=H
  obtain ⟨af,ag,aK,ai⟩:=g_ a6 aa a5 ab
  obtain ⟨amY,amZ,am4,am5,am6,am7,am8,am9,am_,am',am0,am1,am2,am3⟩:=iq a8.out
  obtain ⟨as5,as6,atb,atc,atd,ate,atf,atg,ath,ati,as7,as8,as9,ata⟩:=jA a8.out
  obtain ⟨am,an⟩:=gB aN aQ
  have Om:=dh ae.out
  have bs:=kK a9.out
  go_wp2
  refine bodyPost_ret (iR rfl _ _ yt oQ 28 49 #[.slice eu bW.length d_] #[ah 12,.string (⟨#[]⟩:ByteArray),ah 0,.bool false,.slice none 0 0] (0,0) (0,0) _ _ rfl aT underlying28 rfl aB rfl aT underlying49 rfl aB) rfl ?_
  exact ⟨_,_,bM,aaI,kD,au⟩
 try simp only [aY,bf,ap]
 have b6:=m_ H
 clear H
 obtain ⟨af,ag,aK,ai⟩:=g_ a6 aa a5 ab
 obtain ⟨FC,FD,FN,FP,FQ,FT,FU,FV,FW,FX,FH,FI,FK,FM⟩:=iq a8.out
 obtain ⟨Gp,Gq,Gw,Gx,Gy,Gz,GH,GI,GK,GL,Gs,Gt,Gu,Gv⟩:=jA a8.out
 go_upto_if 12 with (fail)
 (try clear af aK ag ai)
 (try clear FC FD FH FI FK FM FN FP FQ FT FU FV FW FX)
 (try clear Gp Gq Gs Gt Gu Gv Gw Gx Gy Gz GH GI GK GL)
 obtain ⟨H⟩:=b6
 revert H;refine gJ (fun aq H=>?_) fun aq H=>?_
 ·try simp only [aY,bf,aq]
  simp only [Option.some.injEq,Prod.mk.injEq] at H
  obtain ⟨rfl,rfl,rfl,rfl,rfl,rfl⟩:=H
  obtain ⟨ad5,ad6,aea,aeb,aec,aed,aee,aef,aeg,aeh,ad7,ad8,ad9,ad_⟩:=iq a8.out
  obtain ⟨agM,agN,agS,agT,agU,agV,agW,agX,agY,agZ,agO,agP,agQ,agR⟩:=jA a8.out
  obtain ⟨am,an⟩:=gB aN aQ
  have aaU:=dh ae.out
  have bu:=kK a9.out
  go_wp2
  refine bodyPost_ret (iR rfl _ _ yt oQ 28 49 #[.slice eu bW.length d_] #[ah 12,.string (⟨#[]⟩:ByteArray),ah 0,.bool false,.slice none 0 0] (0,0) (0,0) _ _ rfl aT underlying28 rfl aB rfl aT underlying49 rfl aB) rfl ?_
  exact ⟨_,_,bM,aaI,kD,au⟩
 try simp only [aY,bf,aq]
 obtain ⟨wF,MQ⟩:∃ lU:Int,(mn ao (a7.size:Int))=lU:=⟨_,rfl⟩
 replace H:(if 0≤(wF) then (if (wF)≤(a7.size:Int) then (if 0≤(mn al ((a7.extract ((wF):Int).toNat a7.size).size:Int)) then (if (mn al ((a7.extract ((wF):Int).toNat a7.size).size:Int))≤((a7.extract ((wF):Int).toNat a7.size).size:Int) then (some (bW,0,(a7.extract ((wF):Int).toNat a7.size).extract 0 ((mn al ((a7.extract ((wF):Int).toNat a7.size).size:Int)):Int).toNat,0,false,([]:List ByteArray))) else (none)) else (none)) else (none)) else (none))=some (r1,r2,r3,r4,r5,r6):=by first|(rw [MQ] at H;exact H)|(simp only [MQ] at H ⊢;exact H)
 have awC:(if (a7.size:Int) < ao then (a7.size:Int) else ao)=wF:=MQ
 obtain ⟨bi,bj,H⟩:=jE H
 obtain ⟨bl,bm,H⟩:=jE H
 obtain ⟨Hg,MR⟩:∃ lU:Int,(mn al ((a7.extract ((wF):Int).toNat a7.size).size:Int))=lU:=⟨_,rfl⟩
 replace H:(if 0≤(Hg) then (if (Hg)≤((a7.extract ((wF):Int).toNat a7.size).size:Int) then (some (bW,0,(a7.extract ((wF):Int).toNat a7.size).extract 0 ((Hg):Int).toNat,0,false,([]:List ByteArray))) else (none)) else (none))=some (r1,r2,r3,r4,r5,r6):=by first|(rw [MR] at H;exact H)|(simp only [MR] at H ⊢;exact H)
 have aip:(if ((a7.extract ((wF):Int).toNat a7.size).size:Int) < al then ((a7.extract ((wF):Int).toNat a7.size).size:Int) else al)=Hg:=MR
 obtain ⟨fB,bo,H⟩:=jE H
 obtain ⟨bp,bq,H⟩:=jE H
 simp only [ByteArray.size_extract,Nat.min_self] at aip bp bq
 simp only [Option.some.injEq,Prod.mk.injEq] at H
 obtain ⟨rfl,rfl,rfl,rfl,rfl,rfl⟩:=H
 obtain ⟨aey,aez,aeE,aeF,aeG,aeH,aeI,aeJ,aeK,aeL,aeA,aeB,aeC,aeD⟩:=iq a8.out
 obtain ⟨ahc,ahd,ahi,ahj,ahk,ahl,ahm,ahn,aho,ahp,ahe,ahf,ahg,ahh⟩:=jA a8.out
 try go_wp2
 obtain ⟨lK,a8,ae,a9,HB⟩:=p_ (Kd.mQ lK.out) <| yU a8 ae a9 HB
 refine iT (n:=13) (S:=fun w'=>AZ w' ac (ah aw) (ah ax) (ah bH) (ah az) (.slice eu bW.length d_) (ah b0) (.string b1) (.string b2) (ah ao) (ah al) (.string ar) (.string aW) (.bool false) (.string a7)) (ds:=[]) Dh aB rfl rfl (iq a8.out) (fun hH=>?_);refine kE (T:=Az.T6) (B:=Az.B6) aB aB (fun aO fJ=>?_)
 generalize w5.drew=b5 at lK a8 ae a9 HB hH ⊢
 refine bV 0 ?_
 refine bV 2 ?_
 refine bV 3 ?_
 refine bV 4 ?_
 refine bV 6 ?_
 refine bV 7 ?_
 refine lg 1 hH ?_
 refine lg 5 hH ?_
 refine bV 8 ?_
 refine bV 9 ?_
 refine bV 10 ?_
 refine oZ 11 (fun K hK=>?_)
 have aiI:b5.cell? ⟨yt,0,none⟩=some (.slice none 0 0):=(aP ae.out 0).trans rfl
 have afY:=bP ae.out 0
 obtain ⟨an,am⟩:=gB aQ aN
 refine iM (w1:=?_) (by rfl) rfl ?_ ?_
 rotate_left
 ·go_simp
  rfl
 refine hK.out _ _ ⟨(aG a6 hH.1),(aG a6 hH.2.1),(aG a6 hH.2.2.1),(aG a6 hH.2.2.2.1),(aG a6 hH.2.2.2.2.1),(aG a6 hH.2.2.2.2.2.1),(aG a6 hH.2.2.2.2.2.2.1),(aG a6 hH.2.2.2.2.2.2.2.1),(aG a6 hH.2.2.2.2.2.2.2.2.1),(aG a6 hH.2.2.2.2.2.2.2.2.2.1),(aG a6 hH.2.2.2.2.2.2.2.2.2.2.1),(aG a6 hH.2.2.2.2.2.2.2.2.2.2.2.1),(aG a6 hH.2.2.2.2.2.2.2.2.2.2.2.2.1),(aG a6 hH.2.2.2.2.2.2.2.2.2.2.2.2.2)⟩ (fun hH=>?_)
 clear hK K
 refine oZ 12 (fun K hK=>?_)
 have ax5:b5.cell? ⟨oQ,0,none⟩=some (ah 0):=(aP a9.out 0).trans rfl
 have aru:=bP a9.out 0
 have ax6:b5.cell? ⟨oQ,1,none⟩=some (.string (⟨#[]⟩:ByteArray)):=(aP a9.out 1).trans rfl
 have arv:=bP a9.out 1
 have ax7:b5.cell? ⟨oQ,2,none⟩=some (ah 0):=(aP a9.out 2).trans rfl
 have arw:=bP a9.out 2
 have aiJ:b5.cell? ⟨oQ,3,none⟩=some (.bool false):=(aP a9.out 3).trans rfl
 have afZ:=bP a9.out 3
 have aiK:b5.cell? ⟨oQ,4,none⟩=some (.slice none 0 0):=(aP a9.out 4).trans rfl
 have af0:=bP a9.out 4
 refine iM (w1:=?_) (by rfl) rfl ?_ ?_
 rotate_left
 ·go_simp
  rfl
 refine hK.out _ _ ⟨(aG a5 (aG a5 (aG a5 (aG a5 (aG a5 hH.1))))),(aG a5 (aG a5 (aG a5 (aG a5 (aG a5 hH.2.1))))),(aG a5 (aG a5 (aG a5 (aG a5 (aG a5 hH.2.2.1))))),(aG a5 (aG a5 (aG a5 (aG a5 (aG a5 hH.2.2.2.1))))),(aG a5 (aG a5 (aG a5 (aG a5 (aG a5 hH.2.2.2.2.1))))),(aG a5 (aG a5 (aG a5 (aG a5 (aG a5 hH.2.2.2.2.2.1))))),(aG a5 (aG a5 (aG a5 (aG a5 (aG a5 hH.2.2.2.2.2.2.1))))),(aG a5 (aG a5 (aG a5 (aG a5 (aG a5 hH.2.2.2.2.2.2.2.1))))),(aG a5 (aG a5 (aG a5 (aG a5 (aG a5 hH.2.2.2.2.2.2.2.2.1))))),(aG a5 (aG a5 (aG a5 (aG a5 (aG a5 hH.2.2.2.2.2.2.2.2.2.1))))),(aG a5 (aG a5 (aG a5 (aG a5 (aG a5 hH.2.2.2.2.2.2.2.2.2.2.1))))),(aG a5 (aG a5 (aG a5 (aG a5 (aG a5 hH.2.2.2.2.2.2.2.2.2.2.2.1))))),(aG a5 (aG a5 (aG a5 (aG a5 (aG a5 hH.2.2.2.2.2.2.2.2.2.2.2.2.1))))),(aG a5 (aG a5 (aG a5 (aG a5 (aG a5 hH.2.2.2.2.2.2.2.2.2.2.2.2.2)))))⟩ (fun hH=>?_)
 clear hK K
 refine iP (ku aO.out aB) ?_
 try go_wp2
 refine bodyPost_ret (iR rfl _ _ yt oQ 28 49 #[.slice eu bW.length d_] #[ah 0,.string ((a7.extract ((wF):Int).toNat a7.size).extract 0 ((Hg):Int).toNat),ah 0,.bool false,.slice none 0 0] (0,0) (0,0) _ _ rfl aT underlying28 rfl aB rfl aT underlying49 rfl aB) rfl ?_
 exact ⟨_,_,(by first|rfl|(simp [rD,rE] <;> rfl)|(simp only [← MQ,← MR];first|rfl|(simp [rD,rE] <;> rfl))|(simp [*,rD,rE] <;> rfl)),(by (with_reducible repeat (first|apply Kd.qh|apply Kd.qj|apply Kd.mQ));exact Kd.iL (Kd.fF (p:=⟨oQ,4,none⟩) (Kd.fF (p:=⟨oQ,3,none⟩) (Kd.fF (p:=⟨oQ,2,none⟩) (Kd.fF (p:=⟨oQ,1,none⟩) (Kd.fF (p:=⟨oQ,0,none⟩) (Kd.fF (p:=⟨yt,0,none⟩) (Kd.iL (Kd.iL lK.out (fun ay hk=>(⟨hk,hk.1.2⟩:_∧ay≠yt))) (fun ay hk=>(⟨hk,hk.1.2⟩:_∧ay≠oQ))) (fun _ hk=>hk.1.2) (.slice eu bW.length d_)) (fun _ hk=>hk.2) (ah 0)) (fun _ hk=>hk.2) (.string ((a7.extract ((wF):Int).toNat a7.size).extract 0 ((Hg):Int).toNat))) (fun _ hk=>hk.2) (ah 0)) (fun _ hk=>hk.2) (.bool false)) (fun _ hk=>hk.2) (.slice none 0 0)) (fun _ hk=>⟨hk.1.1.1.1.1,yJ⟩)),kD,au⟩

def zJ.f (a0:Int):Option (Int):=if a0 < 0 then (some 0) else (if (Int.tmod a0 32) > 0 then (some (wrap64 ((wrap64 (Int.tdiv a0 32))+1))) else (some (wrap64 (Int.tdiv a0 32))))
theorem zJ.calls (a0:Int) (r:Int) (w:World) (h:zJ.f a0=some r) :
  Calls Tryz.prog 101 #[ah a0] w fun e w'=>e=.returned (ah r)∧nU w w':=by
 unfold zJ.f at h
 have H:=h
 clear h
 revert H;refine gJ (fun a5 H=>?_) fun a5 H=>?_
 ·obtain rfl:=dF H
  go_enter func101,ntmps101
  go_wp2
  go_ret
  exact ⟨bg,kN⟩
 revert H;refine gJ (fun a6 H=>?_) fun a6 H=>?_
 ·obtain rfl:=dF H
  go_enter func101,ntmps101
  go_wp2
  go_ret
  exact ⟨bg,kN⟩
 obtain rfl:=dF H
 go_enter func101,ntmps101
 go_wp2
 go_ret
 exact ⟨bg,kN⟩

def wW.l0:Nat→Int→List (aF)→Int→Int→Option (Int)
 | 0,_,_,_,_=>none
 | k+1,x3,x7,gX,mP=>if mP < gX then (if 0≤mP then (if mP < (x7.length:Int) then (if ((aC x7 mP).f1=true) then (wW.l0 k x3 x7 gX (wrap64 (mP+1))) else ((zJ.f (((aC x7 mP).f2).size:Int)).bind fun a5=>(wW.l0 k (wrap64 (x3+a5)) x7 gX (wrap64 (mP+1))))) else (none)) else (none)) else (some x3)
def wW.f (k:Nat) (a5:List (aF)):Option (Int):=wW.l0 k 0 a5 (a5.length:Int) 0
theorem wW.calls (k:Nat) (ag:Option Addr) (aK:Nat) (aI:List (aF)) (r:Int) (w:World) (aN:Kd.C aU w ag aI.length aI) (aQ:aI.length≤aK) (h:wW.f k aI=some r) :
  Calls Tryz.prog 56 #[.agg #[.slice ag aI.length aK]] w fun e w'=>e=.returned (ah r)∧Below w.heap.size w w':=by
 have mF:=underlying28
 have uf:=underlying43
 have lq:=m_ aN
 have av:=m_ aQ
 clear aN aQ
 have HB:=m_ (Below.refl w.heap.size w)
 unfold wW.f at h
 have H:=h
 clear h
 have H':=m_ H
 clear H
 go_enter func56,ntmps56
 go_wp2_with (first|((with_reducible refine dJ 1 ?_);refine dO 1 (cs:=#[.slice ag aI.length aK]) 28 ?_;intro ao hg w2 hbox hb;obtain ⟨HB,a6,aw,ax⟩:=kL au hb hbox hg;clear hb hbox hg;have ak8:=dh a6.out))
 go_loopg [3,9] k (fun kq v3 v9 w'=>∃ (af:Int) (a5:Int),v3=ah af∧v9=ah a5∧aA (wW.l0 kq af aI (aI.length:Int) a5=some r)∧aA (kq≤k)∧aA (w'.heap[ao]?=some (.cells #[(.slice ag aI.length aK)] 28))∧aA (Below w.heap.size w w'))
 case atStart=>exact ⟨(0),(0),bg,bg,H',⟨Nat.le_refl _⟩,⟨(ak a6)⟩,⟨au⟩⟩
 case round =>
 clear H'
 try clear ak8
 obtain ⟨af,a5,rfl,rfl,HA,gZ,a6,HB⟩:=hrel
 cases gk with
 | zero=>exact absurd HA.out (by simp [wW.l0])
 | succ k1 =>
 obtain ⟨H⟩:=HA
 simp only [wW.l0] at H
 revert H;refine gJ (fun aq H=>?_) fun aq H=>?_
 rotate_left
 ·obtain rfl:=dF H
  go_wp2
  go_ret
  exact ⟨bM,au⟩
 obtain ⟨b3,H⟩:=gK H
 obtain ⟨b4,H⟩:=gK H
 have bH:=m_ H
 clear H
 have am:0≤(a5:Int):=bF bG
 have an:a5 < (aI.length:Int):=bF bG
 obtain ⟨az,ar,a9,aa,ab⟩:=kY lq.out a5 am an
 cases ar
 replace a9:=iQ HB.out a9
 replace aa:=iQ HB.out aa
 replace ab:=iQ HB.out ab
 replace am:=eq_true am
 replace an:=eq_true an
 go_upto_if 15 with (first|((with_reducible refine dJ 5 ?_);refine dO 5 (cs:=#[.string (⟨#[]⟩:ByteArray),.bool false,.string (⟨#[]⟩:ByteArray)]) 43 ?_;intro b0 hg w8 hbox hb;obtain ⟨a6,HB,al,b1,b2,a7,a8⟩:=pq (ak a6) au hb hbox hg;clear hb hbox hg;obtain ⟨ac,ae⟩:=gB a8 a7;have aW:=uw al.out))
 (try simp only [Act.put,List.setIfInBounds_toArray,List.set_cons_zero,List.set_cons_succ])
 (try clear ae ac)
 (try clear aW)
 (try clear a9 aa ab)
 obtain ⟨H⟩:=bH
 obtain ⟨VE,Ql⟩:∃ IK:Bool,IK=((aC aI a5).f1):=⟨_,rfl⟩
 replace H:(if (VE=true) then (wW.l0 k1 af aI (aI.length:Int) (wrap64 (a5+1))) else ((zJ.f (((aC aI a5).f2).size:Int)).bind fun ai=>(wW.l0 k1 (wrap64 (af+ai)) aI (aI.length:Int) (wrap64 (a5+1)))))=some r:=by rw [← Ql] at H;exact H
 have abK:=m_ Ql
 clear Ql
 (try rw [← abK.out])
 by_cases ap:(VE=true)
 ·subst ap
  rw [if_pos rfl] at H
  have H':=m_ H
  clear H
  go_wp2
  go_roundg k1
  case measure=>have:=gZ.out;omega
  case rel=>exact ⟨(af),(wrap64 (a5+1)),bg,bg,H',⟨ou⟩,⟨aT⟩,⟨au⟩⟩
 replace ap:=Bool.eq_false_iff.mpr ap
 subst ap
 rw [if_neg iI] at H
 obtain ⟨ai,b5,H⟩:=bd_ H
 have H':=m_ H
 clear H
 obtain ⟨ac,ae⟩:=gB a8 a7
 have b6:=uw al.out
 go_wp2_with (first|((with_reducible refine bT 101 ?_);refine bU (some 20) rfl rfl func101 aB rfl #[ah (((aC aI a5).f2).size:Int)] rfl aX ?_;(with_reducible refine (zJ.calls (((aC aI a5).f2).size:Int) ai _ b5.out).mono ?_);rintro e w' ⟨rfl,⟨nd,rfl⟩⟩;refine ⟨_,rfl,?_⟩))
 go_roundg k1
 case measure=>have:=gZ.out;omega
 case rel=>exact ⟨(wrap64 (af+ai)),(wrap64 (a5+1)),bg,bg,H',⟨ou⟩,⟨aT⟩,⟨au⟩⟩

def strings_Repeat.f (a0:ByteArray) (a1:Int):Option (ByteArray):=if 0≤a1∧a1≤9223372036854775807∧a0.size * a1.toNat≤140737488355328 then some ⟨(Lib.repeatL a0.data.toList a1.toNat).toArray⟩ else none
theorem strings_Repeat.calls (a0:ByteArray) (a1:Int) (r:ByteArray) (w:World) (h:strings_Repeat.f a0 a1=some r) :
  Calls Tryz.prog 165 #[.string a0,ah a1] w fun e w'=>e=.returned (.string r)∧Below w.heap.size w w':=by
 unfold strings_Repeat.f at h
 split at h
 case isFalse=>cases h
 case isTrue hc =>
  obtain ⟨h0,h1,h2⟩:=hc
  obtain ⟨c,rfl⟩:=Int.eq_ofNat_of_zero_le h0
  obtain rfl:=dF h
  exact Tryz.strings_Repeat a0 c w (by omega) h2

def zK.f (a0:ByteArray) (a1:Int):Option (ByteArray):=(strings_Repeat.f (⟨#[0]⟩:ByteArray) (mx 0 (wrap64 (a1 - (a0.size:Int))))).bind fun a5=>(if a0.size+a5.size≤9223372036854775807 then (some (a0++a5)) else (none))
theorem zK.calls (a0:ByteArray) (a1:Int) (r:ByteArray) (w:World) (h:zK.f a0 a1=some r) :
  Calls Tryz.prog 154 #[.string a0,ah a1] w fun e w'=>e=.returned (.string r)∧Below w.heap.size w w':=by
 have HB:=m_ (Below.refl w.heap.size w)
 unfold zK.f at h
 have H:=h
 clear h
 obtain ⟨Hf,GR⟩:∃ lU:Int,(mx 0 (wrap64 (a1 - (a0.size:Int))))=lU:=⟨_,rfl⟩
 replace H:((strings_Repeat.f (⟨#[0]⟩:ByteArray) (Hf)).bind fun a5=>(if a0.size+a5.size≤9223372036854775807 then (some (a0++a5)) else (none)))=some r:=by first|(rw [GR] at H;exact H)|(simp only [GR] at H ⊢;exact H)
 (try (have awF:0≤Hf:=by (rw [← GR];unfold mx;(repeat' split) <;> omega)))
 (try (have awG:0≤Hf:=by omega))
 have awE:(if 0 < (wrap64 (a1 - (a0.size:Int))) then (wrap64 (a1 - (a0.size:Int))) else 0)=Hf:=GR
 obtain ⟨a5,A4,H⟩:=bd_ H
 obtain ⟨c5,H⟩:=kV H
 have a6:=eq_true c5
 have a7:=mM c5
 try have a8:(9223372036854775807 < a0.size+a5.size)=False:=eq_false (Nat.not_lt.2 c5)
 obtain rfl:=dF H
 go_enter func154,ntmps154
 go_wp2_with (first|((with_reducible refine bT 165 ?_);refine bU (some 11) rfl rfl func165 aB rfl #[.string (⟨#[0]⟩:ByteArray),ah Hf] rfl (by (try simp only [List.map_toArray,List.map_cons,List.map_nil]);first|done|(simp only [GR];rfl)|rfl|(simp only [List.length_drop,List.length_take];rfl)) ?_;(with_reducible refine (strings_Repeat.calls (⟨#[0]⟩:ByteArray) Hf a5 _ A4.out).mono ?_);rintro e w6 ⟨rfl,hb⟩;refine ⟨_,rfl,?_⟩;have eF:=m_ (dP au hb);clear HB;have HB:=eF;clear eF;(try clear hb)))
 go_ret
 exact ⟨(by first|rfl|(simp [rD,rE] <;> rfl)|(simp only [← GR];first|rfl|(simp [rD,rE] <;> rfl))|(simp [*,rD,rE] <;> rfl)),au⟩

def JC.f (a0:ByteArray) (a1:Int):Option (ByteArray):=(yw.f a1 0 128).bind fun a6=>(if a6=true then ((zK.f a0 a1).bind fun a5=>(if 0≤a1 then (if a1≤(a5.size:Int) then (some (a5.extract 0 (a1:Int).toNat)) else (none)) else (none))) else (some a0))
theorem JC.calls (a0:ByteArray) (a1:Int) (r:ByteArray) (w:World) (h:JC.f a0 a1=some r) :
  Calls Tryz.prog 141 #[.string a0,ah a1] w fun e w'=>e=.returned (.string r)∧Below w.heap.size w w':=by
 have HB:=m_ (Below.refl w.heap.size w)
 unfold JC.f at h
 have H:=h
 clear h
 obtain ⟨a5,A3,H⟩:=bd_ H
 have a7:=m_ H
 clear H
 go_enter func141,ntmps141
 go_upto_if 7 with (first|((with_reducible refine bT 100 ?_);refine bU (some 6) rfl rfl func100 aB rfl #[ah a1,ah 0,ah 128] rfl aX ?_;(with_reducible refine (yw.calls a1 0 128 a5 _ A3.out).mono ?_);rintro e w' ⟨rfl,⟨nd,rfl⟩⟩;refine ⟨_,rfl,?_⟩))
 (try simp only [Act.put,List.setIfInBounds_toArray,List.set_cons_zero,List.set_cons_succ])
 obtain ⟨H⟩:=a7
 by_cases c5:a5=true
 rotate_left
 ·replace c5:=Bool.eq_false_iff.mpr c5
  subst c5
  rw [if_neg iI] at H
  obtain rfl:=dF H
  go_wp2
  go_ret
  exact ⟨bM,au⟩
 subst c5
 rw [if_pos rfl] at H
 obtain ⟨a6,A6,H⟩:=bd_ H
 obtain ⟨a8,a9,H⟩:=jE H
 obtain ⟨aa,ab,H⟩:=jE H
 obtain rfl:=dF H
 go_wp2_with (first|((with_reducible refine bT 154 ?_);refine bU (some 11) rfl rfl func154 aB rfl #[.string a0,ah a1] rfl aX ?_;(with_reducible refine (zK.calls a0 a1 a6 _ A6.out).mono ?_);rintro e w9 ⟨rfl,hb⟩;refine ⟨_,rfl,?_⟩;have eF:=m_ (dP au hb);clear HB;have HB:=eF;clear eF;(try clear hb)))
 go_ret
 exact ⟨bM,au⟩

def JD.f (a0:ByteArray) (a1:Int) (a2:ByteArray):Option (ByteArray):=if a2.toList=([]:List UInt8) then (some a0) else (if a1 < 0 then (some a0) else (if a1 > 128 then (some a0) else (if (mx (a0.size:Int) (wrap64 (a1+(a2.size:Int)))) > 128 then (some a0) else ((zK.f a0 a1).bind fun a5=>(if 0≤a1 then (if a1≤(a5.size:Int) then (if (a5.extract 0 (a1:Int).toNat).size+a2.size≤9223372036854775807 then (if 0≤(mn (wrap64 (a1+(a2.size:Int))) (a5.size:Int)) then (if (mn (wrap64 (a1+(a2.size:Int))) (a5.size:Int))≤(a5.size:Int) then (if ((a5.extract 0 (a1:Int).toNat)++a2).size+(a5.extract ((mn (wrap64 (a1+(a2.size:Int))) (a5.size:Int)):Int).toNat a5.size).size≤9223372036854775807 then (some (((a5.extract 0 (a1:Int).toNat)++a2)++(a5.extract ((mn (wrap64 (a1+(a2.size:Int))) (a5.size:Int)):Int).toNat a5.size))) else (none)) else (none)) else (none)) else (none)) else (none)) else (none))))))
theorem JD.calls (a0:ByteArray) (a1:Int) (a2:ByteArray) (r:ByteArray) (w:World) (h:JD.f a0 a1 a2=some r) :
  Calls Tryz.prog 142 #[.string a0,ah a1,.string a2] w fun e w'=>e=.returned (.string r)∧Below w.heap.size w w':=by
 have HB:=m_ (Below.refl w.heap.size w)
 unfold JD.f at h
 have H:=h
 clear h
 revert H;refine fH (fun c4 H=>?_) fun c4 H=>?_
 ·have a6:=fZ c4
  have a7:=f_ c4
  clear c4
  obtain rfl:=dF H
  go_enter func142,ntmps142
  go_wp2
  repeat (go_quiet (fail);try go_wp2)
  go_ret
  exact ⟨bM,au⟩
 have a6:=fP c4
 have a7:=fQ c4
 revert H;refine gJ (fun a8 H=>?_) fun a8 H=>?_
 ·obtain rfl:=dF H
  go_enter func142,ntmps142
  go_wp2
  repeat (go_quiet (fail);try go_wp2)
  go_ret
  exact ⟨bM,au⟩
 revert H;refine gJ (fun a9 H=>?_) fun a9 H=>?_
 ·obtain rfl:=dF H
  go_enter func142,ntmps142
  go_wp2
  repeat (go_quiet (fail);try go_wp2)
  go_ret
  exact ⟨bM,au⟩
 obtain ⟨iY,zI⟩:∃ lU:Int,(mx (a0.size:Int) (wrap64 (a1+(a2.size:Int))))=lU:=⟨_,rfl⟩
 replace H:(if (iY) > 128 then (some a0) else ((zK.f a0 a1).bind fun a5=>(if 0≤a1 then (if a1≤(a5.size:Int) then (if (a5.extract 0 (a1:Int).toNat).size+a2.size≤9223372036854775807 then (if 0≤(mn (wrap64 (a1+(a2.size:Int))) (a5.size:Int)) then (if (mn (wrap64 (a1+(a2.size:Int))) (a5.size:Int))≤(a5.size:Int) then (if ((a5.extract 0 (a1:Int).toNat)++a2).size+(a5.extract ((mn (wrap64 (a1+(a2.size:Int))) (a5.size:Int)):Int).toNat a5.size).size≤9223372036854775807 then (some (((a5.extract 0 (a1:Int).toNat)++a2)++(a5.extract ((mn (wrap64 (a1+(a2.size:Int))) (a5.size:Int)):Int).toNat a5.size))) else (none)) else (none)) else (none)) else (none)) else (none)) else (none))))=some r:=by first|(rw [zI] at H;exact H)|(simp only [zI] at H ⊢;exact H)
 (try (have awM:0≤iY:=by (rw [← zI];unfold mx;(repeat' split) <;> omega)))
 (try (have awN:0≤iY:=by omega))
 have awL:(if (a0.size:Int) < (wrap64 (a1+(a2.size:Int))) then (wrap64 (a1+(a2.size:Int))) else (a0.size:Int))=iY:=zI
 revert H;refine gJ (fun aa H=>?_) fun aa H=>?_
 ·obtain rfl:=dF H
  go_enter func142,ntmps142
  go_wp2
  repeat (go_quiet (fail);try go_wp2)
  go_ret
  exact ⟨(by first|rfl|(simp [rD,rE] <;> rfl)|(simp only [← zI];first|rfl|(simp [rD,rE] <;> rfl))|(simp [*,rD,rE] <;> rfl)),au⟩
 obtain ⟨a5,A9,H⟩:=bd_ H
 obtain ⟨ai,aN,H⟩:=jE H
 obtain ⟨aQ,al,H⟩:=jE H
 obtain ⟨ae,H⟩:=kV H
 have am:=eq_true ae
 have an:=mM ae
 try have ao:(9223372036854775807 < (a5.extract 0 (a1:Int).toNat).size+a2.size)=False:=eq_false (Nat.not_lt.2 ae)
 obtain ⟨He,Jd⟩:∃ lU:Int,(mn (wrap64 (a1+(a2.size:Int))) (a5.size:Int))=lU:=⟨_,rfl⟩
 replace H:(if 0≤(He) then (if (He)≤(a5.size:Int) then (if ((a5.extract 0 (a1:Int).toNat)++a2).size+(a5.extract ((He):Int).toNat a5.size).size≤9223372036854775807 then (some (((a5.extract 0 (a1:Int).toNat)++a2)++(a5.extract ((He):Int).toNat a5.size))) else (none)) else (none)) else (none))=some r:=by first|(rw [Jd] at H;exact H)|(simp only [Jd] at H ⊢;exact H)
 (try rw [Jd] at A9)
 have aww:(if (a5.size:Int) < (wrap64 (a1+(a2.size:Int))) then (a5.size:Int) else (wrap64 (a1+(a2.size:Int))))=He:=Jd
 obtain ⟨ap,aq,H⟩:=jE H
 obtain ⟨ar,aW,H⟩:=jE H
 obtain ⟨aK,H⟩:=kV H
 have av:=eq_true aK
 have aw:=mM aK
 try have ax:(9223372036854775807 < ((a5.extract 0 (a1:Int).toNat)++a2).size+(a5.extract ((He):Int).toNat a5.size).size)=False:=eq_false (Nat.not_lt.2 aK)
 obtain rfl:=dF H
 go_enter func142,ntmps142
 go_wp2_with (first|(go_at_call 154;(with_reducible refine (zK.calls a0 a1 a5 _ A9.out).mono ?_);rintro e bH ⟨rfl,hb⟩;have eF:=m_ (dP au hb);clear HB;have HB:=eF;clear eF;(try clear hb)))
 repeat (go_quiet (first|(go_at_call 154;(with_reducible refine (zK.calls a0 a1 a5 _ A9.out).mono ?_);rintro e bH ⟨rfl,hb⟩;have eF:=m_ (dP au hb);clear HB;have HB:=eF;clear eF;(try clear hb)));try go_wp2_with (first|(go_at_call 154;(with_reducible refine (zK.calls a0 a1 a5 _ A9.out).mono ?_);rintro e bH ⟨rfl,hb⟩;have eF:=m_ (dP au hb);clear HB;have HB:=eF;clear eF;(try clear hb))))
 go_ret
 exact ⟨(by first|rfl|(simp [rD,rE] <;> rfl)|(simp only [← zI,← Jd];first|rfl|(simp [rD,rE] <;> rfl))|(simp [*,rD,rE] <;> rfl)),au⟩

end Go.Proofs.YthejdhjpbpamoaaGreatDoor.jD
