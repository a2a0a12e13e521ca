/- Contracts of Go functions: each call returns what the Lean function beside it computes. Conditions: as each theorem states them. -/
import Derived.Test.YthejdhjpbpamoaaGreatDoorPkFnCodes
import Derived.Test.YthejdhjpbpamoaaGreatDoorPFnCodesx1
import Derived.Test.YthejdhjpbpamoaaGreatDoorPFnCodesx3
import Derived.Test.YthejdhjpbpamoaaGreatDoorPFnCodesx12
import Derived.Test.YthejdhjpbpamoaaGreatDoorPFnCodesx5
namespace Go.Proofs.YthejdhjpbpamoaaGreatDoor.jD
open Go.RowKit Go.Proofs.YthejdhjpbpamoaaGreatDoorW.iw Go.Proofs.YthejdhjpbpamoaaGreatDoorW.lH Go.Proofs.YthejdhjpbpamoaaGreatDoorW.oO Go.Proofs.Tryz
attribute [local go_sem] qw qB qA qF qy qE qx qC   -- for this text's walks alone
set_option linter.unusedVariables false
set_option maxHeartbeats 8000000
set_option maxRecDepth 100000
set_option linter.unusedSimpArgs false

def nJ.j0:Nat→Bool→ByteArray→Int→Int→Int→Int→Int→List (aF)→Int→ByteArray→ByteArray→Int→Int→ByteArray→ByteArray→Bool→ByteArray→Option ((List (aF)) × Int × ByteArray × Int × Bool × List ByteArray)
 | 0,_,_,_,_,_,_,_,_,_,_,_,_,_,_,_,_,_=>none
 | k+1,x4,x5,x6,ac,ae,af,a8,a5,ag,a9,aK,ai,aN,aQ,al,aa,ab=>(wW.f k a5).bind fun am=>((zJ.f (ab.size:Int)).bind fun an=>((zJ.f (x5.size:Int)).bind fun ao=>(if aa=true then (some (a5,5,(⟨#[]⟩:ByteArray),0,false,([]:List ByteArray))) else (if x4=true then (if (wrap64 ((wrap64 (am - an))+ao)) > a8 then (some (a5,13,(⟨#[]⟩:ByteArray),0,false,([]:List ByteArray))) else ((xP.f a5).bind fun a6=>((ug.f a6 a9).bind fun a7=>(if 0≤a7 then (if a7 < (a6.length:Int) then (some ((a6.set (a7:Int).toNat (⟨(aC a6 a7).f0,(aC a6 a7).f1,x5⟩:aF)),0,(⟨#[]⟩:ByteArray),x6,false,([]:List ByteArray))) else (none)) else (none))))) else (some (a5,12,(⟨#[]⟩:ByteArray),0,false,([]:List ByteArray)))))))
def nJ.f (k:Nat) (ac:Int) (ae:Int) (af:Int) (ag:Int) (aK:List (aF)) (ab:Int) (ai:ByteArray) (aN:ByteArray) (a7:Int) (a8:Int) (a5:ByteArray) (a9:ByteArray) (aa:Bool) (a6:ByteArray):Option ((List (aF)) × Int × ByteArray × Int × Bool × List ByteArray):=(yw.f a8 0 128).bind fun aQ=>((JC.f a6 a8).bind fun al=>(if ab=7 then ((yw.f a7 0 (wrap64 (128 - (a5.size:Int)))).bind fun am=>((JD.f a6 a7 a5).bind fun an=>(nJ.j0 k am an (a5.size:Int) ac ae af ag aK ab ai aN a7 a8 a5 a9 aa a6))) else (nJ.j0 k aQ al 0 ac ae af ag aK ab ai aN a7 a8 a5 a9 aa a6)))
def nJ.T1:Bool × List (List Nat × List Nat):=(true,[([],[]),([0],[0]),([1],[1]),([2],[2]),([],[]),([4],[4]),([5],[5]),([],[]),([7],[7]),([8],[8]),([6,9,3],[6,9]),([3,10,0,1,2,3],[3]),([10,11,0,1,2,3,4,5,6,7,8,9,10,11],[10]),([12,0,1,2,3,4,5,6,7,8,9,10,11,12],[])])
def nJ.B1:List Nat:=[0,1,3,7,0,16,48,0,128,384,1023,2047,4095,8191]
theorem nJ.akx:kZ .any (opsOf Tryz.f119 1)=nJ.T1:=by kernel_rfl
theorem nJ.aci:uS nJ.T1.2 nJ.B1=true:=by kernel_rfl
def nJ.T3:Bool × List (List Nat × List Nat):=(true,[([],[]),([0],[0]),([1],[1]),([],[]),([3],[3]),([4],[4]),([5],[5]),([6],[6]),([2,7],[2,7]),([],[]),([9],[9]),([10],[10]),([],[]),([12],[12]),([13],[13]),([],[]),([15],[15]),([16],[16]),([11,14,17,8],[11,14,17]),([],[]),([19],[19]),([20],[20]),([21],[21]),([8,18,0,1,2,3,4,5,6,7,8],[8]),([18,23,0,1,2,3,4,5,6,7,8,9,10,11,12,13,14,15,16,17,18,23],[18]),([22,24,0,1,2,3,4,5,6,7,8,9,10,11,12,13,14,15,16,17,18,19,20,21,22,23,24],[22])])
def nJ.B3:List Nat:=[0,1,3,0,8,24,56,120,255,0,512,1536,0,4096,12288,0,32768,98304,262143,0,524288,1572864,3670016,524287,8912895,33554431]
def nJ.T4:Bool × List (List Nat × List Nat):=(true,[([],[]),([0],[0]),([1],[1]),([],[]),([3],[3]),([4],[4]),([5],[5]),([6,2],[6]),([2,7],[2,7]),([],[]),([9],[9]),([10,7],[10]),([8,11],[8,11]),([12,11,0,1,2,3,4,5,6,7,8,9,10,11,12],[12])])
def nJ.B4:List Nat:=[0,1,3,0,8,24,56,127,255,0,512,1791,4095,8191]
def nJ.T12:Bool × List (List Nat × List Nat):=(true,[([],[]),([0],[0]),([],[]),([],[]),([3],[3]),([4],[4]),([2,5],[2,5]),([],[]),([1,6,0,1,2,3,4,5,6,7],[1,6]),([8,0,1,2,3,4,5,6,7],[8]),([9,7,6,0,1,2,3,4,5,6,7],[7,9])])
def nJ.aa1:List Nat:=[0,1,0,0,8,24,60,0,255,511,1023]
theorem nJ.calls (k:Nat) (b6:Int) (b7:Int) (b8:Int) (b4:Int) (nX:Nat→Prop) (eu:Option Addr) (d_:Nat) (bW:List (aF)) (b5:Int) (b3:ByteArray) (b9:ByteArray) (az:Int) (b0:Int) (aK:ByteArray) (aw:ByteArray) (b1:Bool) (af:ByteArray) (r1:List (aF)) (r2:Int) (r3:ByteArray) (r4:Int) (r5:Bool) (r6:List ByteArray) (w:World) (DR:Kd.V aU 43 w w.heap.size (fun ay=>nX ay) (.slice eu bW.length d_) bW) (h:nJ.f k b6 b7 b8 b4 bW b5 b3 b9 az b0 aK aw b1 af=some (r1,r2,r3,r4,r5,r6)) :
  Calls Tryz.prog 119 #[.agg #[ah b6,ah b7,ah b8,ah b4,.slice eu bW.length d_,ah b5,.string b3,.string b9,ah az,ah b0,.string aK,.string aw,.bool b1,.string af]] w fun e w'=>∃ eP lY:Value,e=.returned (.tuple #[.agg #[eP],.agg #[ah r2,.string r3,ah r4,.bool r5,lY]])∧Kd.V aU 43 w' w.heap.size (fun ay=>(nX ay∨w.heap.size≤ay)∧some ay≠(lY:Value).ownBlock) eP r1∧Kd.R Kd.string 9 w' w.heap.size (fun ay=>(w.heap.size≤ay)) lY r6∧Below w.heap.size w w':=by
 have DT:=underlying90
 have mF:=underlying28
 have xM:=underlying49
 have lK:=m_ (show Kd.V aU 43 w w.heap.size (fun ay=>(nX ay∨w.heap.size≤ay)) (.slice eu bW.length d_) bW from Kd.iL DR (fun ay hk=>.inl hk))
 have HB:=m_ (Below.refl w.heap.size w)
 unfold nJ.f at h
 have H:=h
 clear h
 obtain ⟨bz,A2,H⟩:=bd_ H
 obtain ⟨ca,A3,H⟩:=bd_ H
 have d5:=m_ H
 clear H
 go_enter func119,ntmps119
 try go_wp2_with (first|((with_reducible refine dJ 1 ?_);refine dO 1 (cs:=#[ah b6,ah b7,ah b8,ah b4,.slice eu bW.length d_,ah b5,.string b3,.string b9,ah az,ah b0,.string aK,.string aw,.bool b1,.string af]) 90 ?_;intro a6 hg w5 hbox hb;obtain ⟨lK,HB,a5,di,cc⟩:=p_ (Kd.sV (Kd.vT wK a6 (Nat.le_of_eq hg.symm)) hb) <| kL au hb hbox hg;clear hb hbox hg)|((with_reducible refine dJ 2 ?_);refine dO 2 (cs:=#[.slice none 0 0]) 28 ?_;intro ag hg w6 hbox hb;obtain ⟨lK,a5,HB,a7,dj,cd,aN,aQ⟩:=p_ (Kd.sV (Kd.vT wK ag (Nat.le_of_eq hg.symm)) hb) <| pq (ak a5) au hb hbox hg;clear hb hbox hg)|((with_reducible refine dJ 3 ?_);refine dO 3 (cs:=#[ah 0,.string (⟨#[]⟩:ByteArray),ah 0,.bool false,.slice none 0 0]) 49 ?_;intro a9 hg w7 hbox hb;obtain ⟨lK,a5,a7,HB,a8,dk,ce,al,am,ax,bH⟩:=p_ (Kd.sV (Kd.vT wK a9 (Nat.le_of_eq hg.symm)) hb) <| pU (ak a5) (ak a7) au hb hbox hg;clear hb hbox hg))
 obtain ⟨lK,a5,a7,a8,HB⟩:=p_ (Kd.mQ lK.out) <| yU a5 a7 a8 HB
 refine iT (n:=14) (S:=fun w'=>AZ w' a6 (ah b6) (ah b7) (ah b8) (ah b4) (.slice eu bW.length d_) (ah b5) (.string b3) (.string b9) (ah az) (ah b0) (.string aK) (.string aw) (.bool b1) (.string af)) (ds:=[]) IW aB rfl rfl (iq a5.out) (fun hH=>?_);refine kE nJ.akx nJ.aci (fun aO fJ=>?_)
 generalize w7.drew=w8 at lK a5 a7 a8 HB hH ⊢
 refine bV 0 ?_
 refine bV 1 ?_
 refine cu 4 13 #[aj,aj,F_,F_,aj,F_,F_,F_,F_,F_,F_,F_,F_,F_] aO ?_
 refine cu 5 14 #[aj,aj,F_,F_,aj,aj,F_,F_,F_,F_,F_,F_,F_,F_] aO ?_
 refine cu 7 16 #[aj,aj,F_,F_,aj,aj,F_,aj,F_,F_,F_,F_,F_,F_] aO ?_
 refine cu 8 17 #[aj,aj,F_,F_,aj,aj,F_,aj,aj,F_,F_,F_,F_,F_] aO ?_
 refine jZ 2 11 #[aj,aj,aj,F_,aj,aj,F_,aj,aj,F_,F_,F_,F_,F_] aO fJ hH ?_
 refine jZ 6 15 #[aj,aj,aj,F_,aj,aj,aj,aj,aj,F_,F_,F_,F_,F_] aO fJ hH ?_
 refine jZ 9 18 #[aj,aj,aj,F_,aj,aj,aj,aj,aj,aj,F_,F_,F_,F_] aO fJ hH ?_
 refine oZ 3 (fun K hK=>?_)
 refine i_ func100 aB rfl #[ah b0,ah 0,ah 128] (by rfl) rfl rfl aX ?_
 with_reducible refine (yw.calls b0 0 128 bz _ A2.out).mono ?_
 rintro e w' ⟨rfl,⟨nd,rfl⟩⟩
 refine ⟨_,rfl,?_⟩
 refine hK.out _ _ (iq a5.out) (fun hH=>?_)
 clear hK K
 refine eX (some 12) ?_
 refine oZ 10 (fun K hK=>?_)
 refine i_ func141 aB rfl #[.string af,ah b0] (by rfl) rfl rfl aX ?_
 with_reducible refine (JC.calls af b0 ca _ A3.out).mono ?_
 rintro e w9 ⟨rfl,hb⟩
 refine ⟨_,rfl,?_⟩
 obtain ⟨lK,a5,a7,a8,HB⟩:=p_ (Kd.sV wK hb) <| lD (ak a5) (ak a7) (ak a8) au hb
 (try clear hb)
 refine hK.out _ _ (iq a5.out) (fun hH=>?_)
 clear hK K
 refine eX (some 19) ?_
 refine bV 11 ?_
 refine bV 12 ?_
 refine bV 13 ?_
 refine iP (ku aO.out aB) ?_
 obtain ⟨an,ao,ap,aq⟩:=g_ aN aQ al am
 obtain ⟨E8,E9,Fg,Fh,Fj,Fp,Fq,Fv,Fz,FB,E_,Fa,Fb,Fe⟩:=iq a5.out
 obtain ⟨FZ,F5,Gf,Gg,Gh,Gi,Gj,Gl,Gm,Gn,F6,F7,F8,F9⟩:=jA a5.out
 go_upto_if 23 with (fail)
 go_cut [4,5,6] (fun v4 v5 v6 wc=>∃ (kq:Nat) (bp:Bool) (aW:ByteArray) (fB:Int),v4=.bool bp∧v5=.string aW∧v6=ah fB∧aA (nJ.j0 kq bp aW fB b6 b7 b8 b4 bW b5 b3 b9 az b0 aK aw b1 af=some (r1,r2,r3,r4,r5,r6))∧aA (kq≤k)∧aA (Kd.V aU 43 wc w.heap.size (fun ay=>(nX ay∨w.heap.size≤ay)∧ay≠a6∧ay≠ag∧ay≠a9) (.slice eu bW.length d_) bW)∧aA (wc.heap[a6]?=some (.cells #[ah b6,ah b7,ah b8,ah b4,(.slice eu bW.length d_),ah b5,.string b3,.string b9,ah az,ah b0,.string aK,.string aw,.bool b1,.string af] 90))∧aA (wc.heap[ag]?=some (.cells #[(.slice none 0 0)] 28))∧aA (wc.heap[a9]?=some (.cells #[ah 0,.string (⟨#[]⟩:ByteArray),ah 0,.bool false,(.slice none 0 0)] 49))∧aA (Below w.heap.size w wc))
 case first =>
  obtain ⟨H⟩:=d5
  revert H;refine fH (fun bq H=>?_) fun bq H=>?_
  rotate_left
  ·have bc:=fP bq
   have br:=fQ bq
   try simp only [aY,bf,bc]
   have H':=m_ H
   clear H
   go_wp2
   go_meet
   case rel=>exact ⟨_,(bz),(ca),(0),bg,bg,bg,H',⟨kC⟩,⟨NY⟩,⟨(ak a5)⟩,⟨(ak a7)⟩,⟨(ak a8)⟩,⟨au⟩⟩
  have bc:=fZ bq
  have br:=f_ bq
  clear bq
  try simp only [aY,bf,bc]
  obtain ⟨cf,dr,H⟩:=bd_ H
  obtain ⟨cg,dt,H⟩:=bd_ H
  have H':=m_ H
  clear H
  try go_wp2
  obtain ⟨lK,a5,a7,a8,HB⟩:=p_ (Kd.mQ lK.out) <| yU a5 a7 a8 HB
  refine iT (n:=26) (S:=fun w'=>AZ w' a6 (ah b6) (ah b7) (ah b8) (ah b4) (.slice eu bW.length d_) (ah b5) (.string b3) (.string b9) (ah az) (ah b0) (.string aK) (.string aw) (.bool b1) (.string af)) (ds:=[]) #[F_,F_,F_,F_,F_,F_,F_,F_,F_,F_,F_,F_,F_,F_,F_,F_,F_,F_,F_,F_,F_,F_,F_,F_,F_,F_] aB rfl rfl (iq a5.out) (fun hH=>?_);refine kE (T:=nJ.T3) (B:=nJ.B3) aB aB (fun aO fJ=>?_)
  generalize w9.drew=eb at lK a5 a7 a8 HB hH ⊢
  refine cu 0 24 #[aj,F_,F_,F_,F_,F_,F_,F_,F_,F_,F_,F_,F_,F_,F_,F_,F_,F_,F_,F_,F_,F_,F_,F_,F_,F_] aO ?_
  refine cu 1 25 #[aj,aj,F_,F_,F_,F_,F_,F_,F_,F_,F_,F_,F_,F_,F_,F_,F_,F_,F_,F_,F_,F_,F_,F_,F_,F_] aO ?_
  refine cu 3 27 #[aj,aj,F_,aj,F_,F_,F_,F_,F_,F_,F_,F_,F_,F_,F_,F_,F_,F_,F_,F_,F_,F_,F_,F_,F_,F_] aO ?_
  refine cu 4 28 #[aj,aj,F_,aj,aj,F_,F_,F_,F_,F_,F_,F_,F_,F_,F_,F_,F_,F_,F_,F_,F_,F_,F_,F_,F_,F_] aO ?_
  refine cu 9 33 #[aj,aj,F_,aj,aj,F_,F_,F_,F_,aj,F_,F_,F_,F_,F_,F_,F_,F_,F_,F_,F_,F_,F_,F_,F_,F_] aO ?_
  refine cu 10 34 #[aj,aj,F_,aj,aj,F_,F_,F_,F_,aj,aj,F_,F_,F_,F_,F_,F_,F_,F_,F_,F_,F_,F_,F_,F_,F_] aO ?_
  refine cu 12 36 #[aj,aj,F_,aj,aj,F_,F_,F_,F_,aj,aj,F_,aj,F_,F_,F_,F_,F_,F_,F_,F_,F_,F_,F_,F_,F_] aO ?_
  refine cu 13 37 #[aj,aj,F_,aj,aj,F_,F_,F_,F_,aj,aj,F_,aj,aj,F_,F_,F_,F_,F_,F_,F_,F_,F_,F_,F_,F_] aO ?_
  refine cu 15 39 #[aj,aj,F_,aj,aj,F_,F_,F_,F_,aj,aj,F_,aj,aj,F_,aj,F_,F_,F_,F_,F_,F_,F_,F_,F_,F_] aO ?_
  refine cu 16 40 #[aj,aj,F_,aj,aj,F_,F_,F_,F_,aj,aj,F_,aj,aj,F_,aj,aj,F_,F_,F_,F_,F_,F_,F_,F_,F_] aO ?_
  refine cu 19 43 #[aj,aj,F_,aj,aj,F_,F_,F_,F_,aj,aj,F_,aj,aj,F_,aj,aj,F_,F_,aj,F_,F_,F_,F_,F_,F_] aO ?_
  refine cu 20 44 #[aj,aj,F_,aj,aj,F_,F_,F_,F_,aj,aj,F_,aj,aj,F_,aj,aj,F_,F_,aj,aj,F_,F_,F_,F_,F_] aO ?_
  refine jZ 2 26 #[aj,aj,aj,aj,aj,F_,F_,F_,F_,aj,aj,F_,aj,aj,F_,aj,aj,F_,F_,aj,aj,F_,F_,F_,F_,F_] aO fJ hH ?_
  refine jZ 5 29 #[aj,aj,aj,aj,aj,aj,F_,F_,F_,aj,aj,F_,aj,aj,F_,aj,aj,F_,F_,aj,aj,F_,F_,F_,F_,F_] aO fJ hH ?_
  refine cu 6 30 #[aj,aj,aj,aj,aj,aj,aj,F_,F_,aj,aj,F_,aj,aj,F_,aj,aj,F_,F_,aj,aj,F_,F_,F_,F_,F_] aO ?_
  refine cu 7 31 #[aj,aj,aj,aj,aj,aj,aj,aj,F_,aj,aj,F_,aj,aj,F_,aj,aj,F_,F_,aj,aj,F_,F_,F_,F_,F_] aO ?_
  refine jZ 11 35 #[aj,aj,aj,aj,aj,aj,aj,aj,F_,aj,aj,aj,aj,aj,F_,aj,aj,F_,F_,aj,aj,F_,F_,F_,F_,F_] aO fJ hH ?_
  refine jZ 14 38 #[aj,aj,aj,aj,aj,aj,aj,aj,F_,aj,aj,aj,aj,aj,aj,aj,aj,F_,F_,aj,aj,F_,F_,F_,F_,F_] aO fJ hH ?_
  refine jZ 17 41 #[aj,aj,aj,aj,aj,aj,aj,aj,F_,aj,aj,aj,aj,aj,aj,aj,aj,aj,F_,aj,aj,F_,F_,F_,F_,F_] aO fJ hH ?_
  refine jZ 21 45 #[aj,aj,aj,aj,aj,aj,aj,aj,F_,aj,aj,aj,aj,aj,aj,aj,aj,aj,F_,aj,aj,aj,F_,F_,F_,F_] aO fJ hH ?_
  refine cu 22 46 #[aj,aj,aj,aj,aj,aj,aj,aj,F_,aj,aj,aj,aj,aj,aj,aj,aj,aj,F_,aj,aj,aj,aj,F_,F_,F_] aO ?_
  refine fD (i:=8) (N:=some 32) #[aj,aj,aj,aj,aj,aj,aj,aj,aj,aj,aj,aj,aj,aj,aj,aj,aj,aj,F_,aj,aj,aj,aj,F_,F_,F_] rfl rfl (jq aO.out aB) (by decide) (fun K hK=>?_)
  refine i_ func100 aB rfl #[ah az,ah 0,ah (wrap64 (128 - (aK.size:Int)))] (by rfl) rfl rfl aX ?_
  with_reducible refine (yw.calls az 0 (wrap64 (128 - (aK.size:Int))) cf _ dr.out).mono ?_
  rintro e w' ⟨rfl,⟨nd,rfl⟩⟩
  refine ⟨_,rfl,?_⟩
  refine hK.out _ _ (iq a5.out) (fun hH=>?_)
  clear hK K
  refine eX (some 32) ?_
  refine fD (i:=18) (N:=some 42) #[aj,aj,aj,aj,aj,aj,aj,aj,aj,aj,aj,aj,aj,aj,aj,aj,aj,aj,aj,aj,aj,aj,aj,F_,F_,F_] rfl rfl (jq aO.out aB) (by decide) (fun K hK=>?_)
  refine i_ func142 aB rfl #[.string af,ah az,.string aK] (by rfl) rfl rfl aX ?_
  with_reducible refine (JD.calls af az aK cg _ dt.out).mono ?_
  rintro e ec ⟨rfl,hb⟩
  refine ⟨_,rfl,?_⟩
  obtain ⟨lK,a5,a7,a8,HB⟩:=p_ (Kd.sV wK hb) <| lD (ak a5) (ak a7) (ak a8) au hb
  (try clear hb)
  refine hK.out _ _ (iq a5.out) (fun hH=>?_)
  clear hK K
  refine eX (some 42) ?_
  refine cu 23 4 #[aj,aj,aj,aj,aj,aj,aj,aj,aj,aj,aj,aj,aj,aj,aj,aj,aj,aj,aj,aj,aj,aj,aj,aj,F_,F_] aO ?_
  refine cu 24 5 #[aj,aj,aj,aj,aj,aj,aj,aj,aj,aj,aj,aj,aj,aj,aj,aj,aj,aj,aj,aj,aj,aj,aj,aj,aj,F_] aO ?_
  refine cu 25 6 #[aj,aj,aj,aj,aj,aj,aj,aj,aj,aj,aj,aj,aj,aj,aj,aj,aj,aj,aj,aj,aj,aj,aj,aj,aj,aj] aO ?_
  refine iP (ku aO.out aB) ?_
  try go_wp2
  go_meet
  case rel=>exact ⟨_,(cf),(cg),((aK.size:Int)),bg,bg,bg,H',⟨kC⟩,⟨NY⟩,⟨(ak a5)⟩,⟨(ak a7)⟩,⟨(ak a8)⟩,⟨au⟩⟩
 case rest =>
 clear d5
 try clear E8;try clear E9;try clear E_;try clear Fa;try clear Fb;try clear Fe;try clear Fg;try clear Fh;try clear Fj;try clear Fp;try clear Fq;try clear Fv;try clear Fz;try clear FB;try clear FZ;try clear F5;try clear F6;try clear F7;try clear F8;try clear F9;try clear Gf;try clear Gg;try clear Gh;try clear Gi;try clear Gj;try clear Gl;try clear Gm;try clear Gn
 obtain ⟨kq,bp,aW,fB,rfl,rfl,rfl,HA,Iu,qW,a5,a7,a8,HB⟩:=hcut
 cases kq with
 | zero=>exact absurd HA.out (by simp [nJ.j0])
 | succ AB =>
 obtain ⟨H⟩:=HA
 simp only [nJ.j0] at H
 obtain ⟨ch,du,H⟩:=bd_ H
 obtain ⟨ci,dv,H⟩:=bd_ H
 obtain ⟨cj,jU,H⟩:=bd_ H
 have ck:=m_ H
 clear H
 try go_wp2
 obtain ⟨qW,a5,a7,a8,HB⟩:=p_ (Kd.mQ qW.out) <| yU a5 a7 a8 HB
 refine iT (n:=14) (S:=fun w'=>AZ w' a6 (ah b6) (ah b7) (ah b8) (ah b4) (.slice eu bW.length d_) (ah b5) (.string b3) (.string b9) (ah az) (ah b0) (.string aK) (.string aw) (.bool b1) (.string af)) (ds:=[]) IW aB rfl rfl (iq a5.out) (fun hH=>?_);refine kE (T:=nJ.T4) (B:=nJ.B4) aB aB (fun aO fJ=>?_)
 generalize wc.drew=eh at qW a5 a7 a8 HB hH ⊢
 refine bV 0 ?_
 refine cu 3 50 #[aj,F_,F_,aj,F_,F_,F_,F_,F_,F_,F_,F_,F_,F_] aO ?_
 refine cu 4 51 #[aj,F_,F_,aj,aj,F_,F_,F_,F_,F_,F_,F_,F_,F_] aO ?_
 refine cu 9 56 #[aj,F_,F_,aj,aj,F_,F_,F_,F_,aj,F_,F_,F_,F_] aO ?_
 refine cu 10 57 #[aj,F_,F_,aj,aj,F_,F_,F_,F_,aj,aj,F_,F_,F_] aO ?_
 refine jZ 1 48 #[aj,aj,F_,aj,aj,F_,F_,F_,F_,aj,aj,F_,F_,F_] aO fJ hH ?_
 refine jZ 5 52 #[aj,aj,F_,aj,aj,aj,F_,F_,F_,aj,aj,F_,F_,F_] aO fJ hH ?_
 refine cu 6 53 #[aj,aj,F_,aj,aj,aj,aj,F_,F_,aj,aj,F_,F_,F_] aO ?_
 refine fD (i:=2) (N:=some 49) #[aj,aj,aj,aj,aj,aj,aj,F_,F_,aj,aj,F_,F_,F_] rfl rfl (jq aO.out aB) (by decide) (fun K hK=>?_)
 refine i_ func56 aB rfl #[.agg #[.slice eu bW.length d_]] (by rfl) rfl rfl aX ?_
 with_reducible refine (wW.calls AB _ _ bW ch _ aay ((Kd.vU qW.out).2.1) du.out).mono ?_
 rintro e ei ⟨rfl,hb⟩
 refine ⟨_,rfl,?_⟩
 obtain ⟨qW,a5,a7,a8,HB⟩:=p_ (Kd.sV Oe hb) <| lD (ak a5) (ak a7) (ak a8) au hb
 (try clear hb)
 refine hK.out _ _ (iq a5.out) (fun hH=>?_)
 clear hK K
 refine eX (some 49) ?_
 refine fD (i:=7) (N:=some 54) #[aj,aj,aj,aj,aj,aj,aj,aj,F_,aj,aj,F_,F_,F_] rfl rfl (jq aO.out aB) (by decide) (fun K hK=>?_)
 refine i_ func101 aB rfl #[ah (af.size:Int)] (by rfl) rfl rfl aX ?_
 with_reducible refine (zJ.calls (af.size:Int) ci _ dv.out).mono ?_
 rintro e w' ⟨rfl,⟨nd,rfl⟩⟩
 refine ⟨_,rfl,?_⟩
 refine hK.out _ _ (iq a5.out) (fun hH=>?_)
 clear hK K
 refine eX (some 54) ?_
 refine bV 8 ?_
 refine oZ 11 (fun K hK=>?_)
 refine i_ func101 aB rfl #[ah (aW.size:Int)] (by rfl) rfl rfl aX ?_
 with_reducible refine (zJ.calls (aW.size:Int) cj _ jU.out).mono ?_
 rintro e w' ⟨rfl,⟨nd,rfl⟩⟩
 refine ⟨_,rfl,?_⟩
 refine hK.out _ _ (iq a5.out) (fun hH=>?_)
 clear hK K
 refine eX (some 58) ?_
 refine bV 12 ?_
 refine bV 13 ?_
 refine iP (ku aO.out aB) ?_
 obtain ⟨FC,FD,FN,FP,FQ,FT,FU,FV,FW,FX,FH,FI,FK,FM⟩:=iq a5.out
 obtain ⟨Gp,Gq,Gw,Gx,Gy,Gz,GH,GI,GK,GL,Gs,Gt,Gu,Gv⟩:=jA a5.out
 go_upto_if 60 with (fail)
 (try clear an ap ao aq)
 (try clear FC FD FH FI FK FM FN FP FQ FT FU FV FW FX)
 (try clear Gp Gq Gs Gt Gu Gv Gw Gx Gy Gz GH GI GK GL)
 obtain ⟨H⟩:=ck
 by_cases d3:b1=true
 ·subst d3
  rw [if_pos rfl] at H
  simp only [Option.some.injEq,Prod.mk.injEq] at H
  obtain ⟨rfl,rfl,rfl,rfl,rfl,rfl⟩:=H
  obtain ⟨an,ao,ap,aq⟩:=g_ aN aQ al am
  obtain ⟨ad5,ad6,aea,aeb,aec,aed,aee,aef,aeg,aeh,ad7,ad8,ad9,ad_⟩:=iq a5.out
  obtain ⟨agM,agN,agS,agT,agU,agV,agW,agX,agY,agZ,agO,agP,agQ,agR⟩:=jA a5.out
  obtain ⟨ba,bb⟩:=gB ax bH
  have aaU:=dh a7.out
  have dx:=kK a8.out
  go_wp2
  refine bodyPost_ret (iR rfl _ _ ag a9 28 49 #[.slice eu bW.length d_] #[ah 5,.string (⟨#[]⟩:ByteArray),ah 0,.bool false,.slice none 0 0] (0,0) (0,0) _ _ rfl aT underlying28 rfl aB rfl aT underlying49 rfl aB) rfl ?_
  exact ⟨_,_,bM,(by (with_reducible repeat (first|apply Kd.qh|apply Kd.qj|apply Kd.mQ));exact Kd.iL (Kd.fF (p:=⟨a9,4,none⟩) (Kd.fF (p:=⟨a9,3,none⟩) (Kd.fF (p:=⟨a9,2,none⟩) (Kd.fF (p:=⟨a9,1,none⟩) (Kd.fF (p:=⟨a9,0,none⟩) (Kd.fF (p:=⟨ag,0,none⟩) (Kd.iL (Kd.iL qW.out (fun ay hk=>(⟨hk,hk.2.2.1⟩:_∧ay≠ag))) (fun ay hk=>(⟨hk,hk.1.2.2.2⟩:_∧ay≠a9))) (fun _ hk=>hk.1.2) (.slice eu bW.length d_)) (fun _ hk=>hk.2) (ah 5)) (fun _ hk=>hk.2) (.string (⟨#[]⟩:ByteArray))) (fun _ hk=>hk.2) (ah 0)) (fun _ hk=>hk.2) (.bool false)) (fun _ hk=>hk.2) (.slice none 0 0)) (fun _ hk=>⟨hk.1.1.1,yJ⟩)),kD,au⟩
 replace d3:=Bool.eq_false_iff.mpr d3
 subst d3
 rw [if_neg iI] at H
 by_cases d4:bp=true
 rotate_left
 ·replace d4:=Bool.eq_false_iff.mpr d4
  subst d4
  rw [if_neg iI] at H
  simp only [Option.some.injEq,Prod.mk.injEq] at H
  obtain ⟨rfl,rfl,rfl,rfl,rfl,rfl⟩:=H
  obtain ⟨an,ao,ap,aq⟩:=g_ aN aQ al am
  obtain ⟨ao6,ao7,apb,apc,apd,ape,apf,apg,aph,apj,ao8,ao9,ao_,apa⟩:=iq a5.out
  obtain ⟨avk,avl,avq,avr,avs,avt,avu,avv,avw,avx,avm,avn,avo,avp⟩:=jA a5.out
  obtain ⟨ba,bb⟩:=gB ax bH
  have alh:=dh a7.out
  have dy:=kK a8.out
  go_wp2
  refine bodyPost_ret (iR rfl _ _ ag a9 28 49 #[.slice eu bW.length d_] #[ah 12,.string (⟨#[]⟩:ByteArray),ah 0,.bool false,.slice none 0 0] (0,0) (0,0) _ _ rfl aT underlying28 rfl aB rfl aT underlying49 rfl aB) rfl ?_
  exact ⟨_,_,bM,(by (with_reducible repeat (first|apply Kd.qh|apply Kd.qj|apply Kd.mQ));exact Kd.iL (Kd.fF (p:=⟨a9,4,none⟩) (Kd.fF (p:=⟨a9,3,none⟩) (Kd.fF (p:=⟨a9,2,none⟩) (Kd.fF (p:=⟨a9,1,none⟩) (Kd.fF (p:=⟨a9,0,none⟩) (Kd.fF (p:=⟨ag,0,none⟩) (Kd.iL (Kd.iL qW.out (fun ay hk=>(⟨hk,hk.2.2.1⟩:_∧ay≠ag))) (fun ay hk=>(⟨hk,hk.1.2.2.2⟩:_∧ay≠a9))) (fun _ hk=>hk.1.2) (.slice eu bW.length d_)) (fun _ hk=>hk.2) (ah 12)) (fun _ hk=>hk.2) (.string (⟨#[]⟩:ByteArray))) (fun _ hk=>hk.2) (ah 0)) (fun _ hk=>hk.2) (.bool false)) (fun _ hk=>hk.2) (.slice none 0 0)) (fun _ hk=>⟨hk.1.1.1,yJ⟩)),kD,au⟩
 subst d4
 rw [if_pos rfl] at H
 have cl:=m_ H
 clear H
 obtain ⟨an,ao,ap,aq⟩:=g_ aN aQ al am
 obtain ⟨LK,LM,LW,LX,LY,LZ,L6,L8,L9,L_,LP,LQ,LU,LV⟩:=iq a5.out
 obtain ⟨Mc,Md,MG,MH,MI,MJ,MK,ML,MN,MO,Me,MB,MC,MF⟩:=jA a5.out
 go_upto_if 73 with (fail)
 (try clear an ap ao aq)
 (try clear LK LM LP LQ LU LV LW LX LY LZ L6 L8 L9 L_)
 (try clear Mc Md Me MB MC MF MG MH MI MJ MK ML MN MO)
 obtain ⟨H⟩:=cl
 revert H;refine gJ (fun bd H=>?_) fun bd H=>?_
 ·try simp only [aY,bf,bd]
  simp only [Option.some.injEq,Prod.mk.injEq] at H
  obtain ⟨rfl,rfl,rfl,rfl,rfl,rfl⟩:=H
  obtain ⟨aey,aez,aeE,aeF,aeG,aeH,aeI,aeJ,aeK,aeL,aeA,aeB,aeC,aeD⟩:=iq a5.out
  obtain ⟨ahc,ahd,ahi,ahj,ahk,ahl,ahm,ahn,aho,ahp,ahe,ahf,ahg,ahh⟩:=jA a5.out
  obtain ⟨ba,bb⟩:=gB ax bH
  have ak9:=dh a7.out
  have dz:=kK a8.out
  go_wp2
  refine bodyPost_ret (iR rfl _ _ ag a9 28 49 #[.slice eu bW.length d_] #[ah 13,.string (⟨#[]⟩:ByteArray),ah 0,.bool false,.slice none 0 0] (0,0) (0,0) _ _ rfl aT underlying28 rfl aB rfl aT underlying49 rfl aB) rfl ?_
  exact ⟨_,_,bM,(by (with_reducible repeat (first|apply Kd.qh|apply Kd.qj|apply Kd.mQ));exact Kd.iL (Kd.fF (p:=⟨a9,4,none⟩) (Kd.fF (p:=⟨a9,3,none⟩) (Kd.fF (p:=⟨a9,2,none⟩) (Kd.fF (p:=⟨a9,1,none⟩) (Kd.fF (p:=⟨a9,0,none⟩) (Kd.fF (p:=⟨ag,0,none⟩) (Kd.iL (Kd.iL qW.out (fun ay hk=>(⟨hk,hk.2.2.1⟩:_∧ay≠ag))) (fun ay hk=>(⟨hk,hk.1.2.2.2⟩:_∧ay≠a9))) (fun _ hk=>hk.1.2) (.slice eu bW.length d_)) (fun _ hk=>hk.2) (ah 13)) (fun _ hk=>hk.2) (.string (⟨#[]⟩:ByteArray))) (fun _ hk=>hk.2) (ah 0)) (fun _ hk=>hk.2) (.bool false)) (fun _ hk=>hk.2) (.slice none 0 0)) (fun _ hk=>⟨hk.1.1.1,yJ⟩)),kD,au⟩
 try simp only [aY,bf,bd]
 obtain ⟨ab,e0,H⟩:=bd_ H
 obtain ⟨ac,e3,H⟩:=bd_ H
 obtain ⟨dm,H⟩:=gK H
 obtain ⟨dp,H⟩:=gK H
 obtain ⟨cm,bo⟩:∃ y_:List (aF),y_=(ab.set (ac:Int).toNat (⟨(aC ab ac).f0,(aC ab ac).f1,aW⟩:aF)):=⟨_,rfl⟩
 rw [← bo] at H
 have cn:=m_ bo
 clear bo
 simp only [Option.some.injEq,Prod.mk.injEq] at H
 obtain ⟨rfl,rfl,rfl,rfl,rfl,rfl⟩:=H
 obtain ⟨ae0,ae1,ae6,ae7,ae8,ae9,ae_,ae',afa,afb,ae2,ae3,ae4,ae5⟩:=iq a5.out
 obtain ⟨ahE,ahF,ahK,ahL,ahM,ahN,ahO,ahP,ahQ,ahR,ahG,ahH,ahI,ahJ⟩:=jA a5.out
 try go_wp2_with (first|((with_reducible refine bT 45 ?_);refine bU (some 84) rfl rfl func45 aB rfl #[.agg #[.slice eu bW.length d_]] rfl aX ?_;(with_reducible refine (xP.calls _ _ bW ab _ aay ((Kd.vU qW.out).2.1) e0.out).mono ?_);rintro e ej ⟨azC,rfl,ho0,hb⟩;refine ⟨_,rfl,?_⟩;obtain ⟨qW,aa,a5,a7,a8,HB⟩:=p_ (Kd.CY Oe (Kd.jo ho0) hb) <| p_ (Kd.dI (Kd.yR (M:=fun ay=>(w.heap.size≤ay)) ho0 (cZ au) (fun ay dG=>dG)) (cZ au)) <| lD (ak a5) (ak a7) (ak a8) au hb;(try clear hb);(try clear ho0))|((with_reducible refine dJ 8 ?_);refine dO 8 (cs:=#[.slice none 0 0]) 28 ?_;intro ai hg bs hbox hb;obtain ⟨qW,aa,a5,a7,a8,HB,ae,dq,co,dM,bh,bi,bj,bl,bm⟩:=p_ (Kd.sV (Kd.vT Oe ai (Nat.le_of_eq hg.symm)) hb) <| p_ (Kd.dw (aJ aa) hb) <| vI (ak a5) (ak a7) (ak a8) au hb hbox hg;clear hb hbox hg;obtain ⟨b2,av,d6⟩:=Kd.dK aa.out;subst d6;obtain ⟨cp,cq,cr,ct,iO,cv⟩:=kJ bh dM bj bi bm bl;have aaW:=dh ae.out))
 have eF:aA (Kd.V aU 43 (bs.setCell ⟨ai,0,none⟩ (.slice b2 ab.length av)) w.heap.size (fun ay=>(nX ay∨w.heap.size≤ay)∧some ay≠(.slice b2 ab.length av:Value).ownBlock∧ay≠a6∧ay≠ag∧ay≠a9∧ay≠ai) (.slice eu bW.length d_) bW):=⟨(by (with_reducible repeat (first|apply Kd.qh|apply Kd.qj|apply Kd.mQ));exact Kd.iL (Kd.fF (p:=⟨ai,0,none⟩) (Kd.iL qW.out (fun ay hk=>(⟨hk,hk.2⟩:_∧ay≠ai))) (fun _ hk=>hk.2) (.slice b2 ab.length av)) (fun _ hk=>⟨hk.1.1.1.1,⟨hk.1.1.2,⟨hk.1.1.1.2.1,⟨hk.1.1.1.2.2.1,⟨hk.1.1.1.2.2.2,hk.1.2⟩⟩⟩⟩⟩))⟩
 have jF:aA (Kd.R aU 43 (bs.setCell ⟨ai,0,none⟩ (.slice b2 ab.length av)) w.heap.size (fun ay=>(w.heap.size≤ay)) (.slice b2 ab.length av) ab):=⟨(by (with_reducible repeat (first|apply Kd.dB|apply Kd.dD|apply Kd.aZ));exact Kd.bn (aH (Kd.bQ aa.out ae.out (by decide))) (fun _ hk=>hk.1.1))⟩
 have jG:aA ((bs.setCell ⟨ai,0,none⟩ (.slice b2 ab.length av)).heap[a6]?=some (.cells #[ah b6,ah b7,ah b8,ah b4,.slice eu bW.length d_,ah b5,.string b3,.string b9,ah az,ah b0,.string aK,.string aw,.bool false,.string af] 90)):=⟨aT⟩
 have jH:aA ((bs.setCell ⟨ai,0,none⟩ (.slice b2 ab.length av)).heap[ag]?=some (.cells #[.slice none 0 0] 28)):=⟨aT⟩
 have jI:aA ((bs.setCell ⟨ai,0,none⟩ (.slice b2 ab.length av)).heap[a9]?=some (.cells #[ah 0,.string (⟨#[]⟩:ByteArray),ah 0,.bool false,.slice none 0 0] 49)):=⟨aT⟩
 have jL:aA ((bs.setCell ⟨ai,0,none⟩ (.slice b2 ab.length av)).heap[ai]?=some (.cells #[.slice b2 ab.length av] 28)):=⟨aT⟩
 have kW:aA (Below w.heap.size w (bs.setCell ⟨ai,0,none⟩ (.slice b2 ab.length av))):=⟨au⟩
 (try clear qW)
 (try clear aa)
 (try clear a5)
 (try clear a7)
 (try clear a8)
 (try clear ae)
 (try clear HB)
 generalize (bs.setCell ⟨ai,0,none⟩ (.slice b2 ab.length av))=e4 at eF jF jG jH jI jL kW ⊢
 have qW:=eF
 have aa:=jF
 have a5:=jG
 have a7:=jH
 have a8:=jI
 have ae:=jL
 have HB:=kW
 clear eF jF jG jH jI jL kW
 obtain ⟨qW,aa,a5,a7,a8,ae,HB⟩:=p_ (Kd.mQ qW.out) <| p_ (Kd.aZ aa.out) <| wV a5 a7 a8 ae HB
 refine iT (n:=11) (S:=fun w'=>jQ w' ai (.slice b2 ab.length av) <| AZ w' a6 (ah b6) (ah b7) (ah b8) (ah b4) (.slice eu bW.length d_) (ah b5) (.string b3) (.string b9) (ah az) (ah b0) (.string aK) (.string aw) (.bool false) (.string af)) (ds:=[10]) Bl aB rfl rfl ⟨(aP ae.out 0).trans rfl,iq a5.out⟩ (fun hH=>?_);refine kE (T:=nJ.T12) (B:=nJ.aa1) aB aB (fun aO fJ=>?_)
 generalize e4.drew=ek at qW aa a5 a7 a8 ae HB hH ⊢
 refine bV 0 ?_
 refine cu 3 88 #[aj,F_,F_,aj,F_,F_,F_,F_,F_,F_,F_] aO ?_
 refine cu 4 89 #[aj,F_,F_,aj,aj,F_,F_,F_,F_,F_,F_] aO ?_
 refine cu 7 92 #[aj,F_,F_,aj,aj,F_,F_,aj,F_,F_,F_] aO ?_
 refine jZ 1 86 #[aj,aj,F_,aj,aj,F_,F_,aj,F_,F_,F_] aO fJ hH ?_
 refine jZ 2 87 #[aj,aj,aj,aj,aj,F_,F_,aj,F_,F_,F_] aO fJ hH ?_
 refine jZ 5 90 #[aj,aj,aj,aj,aj,aj,F_,aj,F_,F_,F_] aO fJ hH ?_
 refine oZ 6 (fun K hK=>?_)
 refine i_ func17 aB rfl #[.agg #[.slice b2 ab.length av],.string b3] (by rfl) rfl rfl aX ?_
 with_reducible refine (ug.calls _ _ ab b3 ac _ ?kX ((Kd.dN aa.out).2.1) e3.out).mono ?_
 (case kX=>repeat (first|exact (Kd.dN aa.out).2.2|(with_reducible refine Kd.jO ?_ _)|(with_reducible refine Kd.jT ?_ _)|(with_reducible refine Kd.jS ?_)))
 rintro e bu ⟨rfl,hb⟩
 refine ⟨_,rfl,?_⟩
 obtain ⟨qW,aa,a5,a7,a8,ae,HB⟩:=p_ (Kd.sV Oe hb) <| p_ (Kd.dw (aJ aa) hb) <| I4 (ak a5) (ak a7) (ak a8) (ak ae) au hb
 (try clear hb)
 have d7:0≤(ac:Int):=bF bG
 have d8:(ac:Int) < ((ab.length:Int):Int):=bF bG
 obtain ⟨ar,e5,cw,cx,d9,e6,cy⟩:=Kd.yQ aa.out (by omega)
 (first|cases cw|(injection cw with kQ uX uV;(first|subst kQ|(injection kQ with kQ;subst kQ));subst uV;clear uX))
 have da:=m_ cx
 have e7:=m_ cy
 clear cx d9 cy
 obtain ⟨e8,cz,d0,be,fA⟩:=Kd.oP aa.out z43 (ac:Int) d7 d8
 obtain rfl:=oW d0
 have db:World.cell? _ ⟨ar,(ac:Int).toNat * 3,none⟩=some (.string ((aC ab ac).f0)):=be 0 _ rfl
 have dd:World.cell? _ ⟨ar,(ac:Int).toNat * 3+1,none⟩=some (.bool ((aC ab ac).f1)):=be 1 _ rfl
 have de:World.cell? _ ⟨ar,(ac:Int).toNat * 3+2,none⟩=some (.string ((aC ab ac).f2)):=be 2 _ rfl
 have df:World.frozen? _ ⟨ar,(ac:Int).toNat * 3,none⟩=false:=fA 0
 have dg:World.frozen? _ ⟨ar,(ac:Int).toNat * 3+1,none⟩=false:=fA 1
 have lN:World.frozen? _ ⟨ar,(ac:Int).toNat * 3+2,none⟩=false:=fA 2
 clear cz be fA d0
 replace d7:=eq_true d7
 replace d8:=eq_true d8
 obtain ⟨e9,bv,d1,bw,d2⟩:=Kd.oP aa.out z43 (ac:Int) (bF bG) (by have dG:(ac:Int) < ((ab.length:Int):Int):=bF bG;first|exact dG|(have e_:=(Kd.dN aa.out).1;omega)|simpa using dG)
 obtain rfl:=oW d1
 have OT:=(Kd.yc aa.out (ac:Int) (bF bG) (by have dG:(ac:Int) < ((ab.length:Int):Int):=bF bG;first|exact dG|(have e_:=(Kd.dN aa.out).1;omega)|simpa using dG) (seg:=[.string aW]) (j:=2) bv bw (show 3≤3 from by decide) (x':=(⟨(aC ab ac).f0,(aC ab ac).f1,aW⟩:aF)) (qp _ _ _ (⟨(aC ab ac).f0,(aC ab ac).f1,aW⟩:aF) ) (fun _ hk=>hk)).1
 rw [← cn.out] at OT
 have abx:=m_ OT
 clear bv bw d2 d1 OT
 refine hK.out _ _ ⟨(aP ae.out 0).trans rfl,iq a5.out⟩ (fun hH=>?_)
 clear hK K
 refine eX (some 91) ?_
 refine bV 8 ?_
 refine bV 9 ?_
 refine xQ 10 (fun K hK=>?_)
 refine iM (w1:=?_) (by rfl) rfl ?_ ?_
 rotate_left
 ·go_simp
  rfl
 refine hK.out _ _ ?_
 clear hK K
 refine iP (ku aO.out aB) ?_
 have eF:aA (Kd.V aU 43 (bu.setCell ⟨ar,(ac:Int).toNat * 3+2,none⟩ (.string aW)) w.heap.size (fun ay=>(nX ay∨w.heap.size≤ay)∧some ay≠(.slice (some ⟨ar,0,none⟩) ab.length av:Value).ownBlock∧ay≠a6∧ay≠ag∧ay≠a9∧ay≠ai) (.slice eu bW.length d_) bW):=⟨(by (with_reducible repeat (first|apply Kd.qh|apply Kd.qj|apply Kd.mQ));exact Kd.iL (Kd.fF (p:=⟨ar,(ac:Int).toNat * 3+2,none⟩) (Kd.iL qW.out (fun ay hk=>(⟨hk,fun e_=>hk.2.1 (by rw [e_];rfl)⟩:_∧ay≠ar))) (fun _ hk=>hk.2) (.string aW)) (fun _ hk=>⟨hk.1.1,⟨hk.1.2.1,⟨hk.1.2.2.1,⟨hk.1.2.2.2.1,⟨hk.1.2.2.2.2.1,hk.1.2.2.2.2.2⟩⟩⟩⟩⟩))⟩
 have jF:aA (Kd.R aU 43 (bu.setCell ⟨ar,(ac:Int).toNat * 3+2,none⟩ (.string aW)) w.heap.size (fun ay=>(w.heap.size≤ay)) (.slice (some ⟨ar,0,none⟩) ab.length av) cm):=⟨(aJ abx)⟩
 have jG:aA ((bu.setCell ⟨ar,(ac:Int).toNat * 3+2,none⟩ (.string aW)).heap[a6]?=some (.cells #[ah b6,ah b7,ah b8,ah b4,.slice eu bW.length d_,ah b5,.string b3,.string b9,ah az,ah b0,.string aK,.string aw,.bool false,.string af] 90)):=⟨(by (with_reducible repeat (first|refine mW ?_ _|refine iD ?_|refine kU ?_ _));refine yT ?_ (by have dG:=Kd.fV aa.out a5.out (by decide);intro e_;exact dG (by rw [e_];rfl)) _;(with_reducible repeat (first|refine mW ?_ _|refine iD ?_|refine kU ?_ _));exact a5.out)⟩
 have jH:aA ((bu.setCell ⟨ar,(ac:Int).toNat * 3+2,none⟩ (.string aW)).heap[ag]?=some (.cells #[.slice none 0 0] 28)):=⟨(by (with_reducible repeat (first|refine mW ?_ _|refine iD ?_|refine kU ?_ _));refine yT ?_ (by have dG:=Kd.fV aa.out a7.out (by decide);intro e_;exact dG (by rw [e_];rfl)) _;(with_reducible repeat (first|refine mW ?_ _|refine iD ?_|refine kU ?_ _));exact a7.out)⟩
 have jI:aA ((bu.setCell ⟨ar,(ac:Int).toNat * 3+2,none⟩ (.string aW)).heap[a9]?=some (.cells #[ah 0,.string (⟨#[]⟩:ByteArray),ah 0,.bool false,.slice none 0 0] 49)):=⟨(by (with_reducible repeat (first|refine mW ?_ _|refine iD ?_|refine kU ?_ _));refine yT ?_ (by have dG:=Kd.fV aa.out a8.out (by decide);intro e_;exact dG (by rw [e_];rfl)) _;(with_reducible repeat (first|refine mW ?_ _|refine iD ?_|refine kU ?_ _));exact a8.out)⟩
 have jL:aA ((bu.setCell ⟨ar,(ac:Int).toNat * 3+2,none⟩ (.string aW)).heap[ai]?=some (.cells #[.slice (some ⟨ar,0,none⟩) ab.length av] 28)):=⟨(by (with_reducible repeat (first|refine mW ?_ _|refine iD ?_|refine kU ?_ _));refine yT ?_ (by have dG:=Kd.fV aa.out ae.out (by decide);intro e_;exact dG (by rw [e_];rfl)) _;(with_reducible repeat (first|refine mW ?_ _|refine iD ?_|refine kU ?_ _));exact ae.out)⟩
 have kW:aA (Below w.heap.size w (bu.setCell ⟨ar,(ac:Int).toNat * 3+2,none⟩ (.string aW))):=⟨(by repeat (first|(with_reducible first|exact HB.out|apply mY|apply qN|apply lC|refine iF ?_ da.out|refine iF ?_ cc.out|refine iF ?_ cd.out|refine iF ?_ ce.out|refine iF ?_ co.out)|exact HB.out))⟩
 (try clear qW)
 (try clear aa)
 (try clear a5)
 (try clear a7)
 (try clear a8)
 (try clear ae)
 (try clear HB)
 generalize (bu.setCell ⟨ar,(ac:Int).toNat * 3+2,none⟩ (.string aW))=el at eF jF jG jH jI jL kW ⊢
 have qW:=eF
 have aa:=jF
 have a5:=jG
 have a7:=jH
 have a8:=jI
 have ae:=jL
 have HB:=kW
 clear eF jF jG jH jI jL kW
 have aBo:=dh ae.out
 obtain ⟨ba,bb⟩:=gB ax bH
 have alf:=dh a7.out
 have ea:=kK a8.out
 try go_wp2
 refine bodyPost_ret (iR rfl _ _ ag a9 28 49 #[.slice (some ⟨ar,0,none⟩) ab.length av] #[ah 0,.string (⟨#[]⟩:ByteArray),ah fB,.bool false,.slice none 0 0] (0,0) (0,0) _ _ rfl aT underlying28 rfl aB rfl aT underlying49 rfl aB) rfl ?_
 exact ⟨_,_,bM,Kd.KN (base:=w.heap.size) (by (with_reducible repeat (first|apply Kd.dB|apply Kd.dD|apply Kd.aZ));exact Kd.bn (aH (aH (aH (aH (aH (aH (Kd.bQ (Kd.bQ aa.out a7.out (by decide)) a8.out (by decide)) (fun _ hk=>hk.1.2))))))) (fun _ hk=>⟨.inr hk.1.1,yJ⟩)),kD,au⟩

def Aw.f (k:Nat) (ac:Int) (ae:Int) (af:Int) (ag:Int) (a5:List (aF)) (aK:Int) (a7:ByteArray) (ai:ByteArray) (aN:Int) (aQ:Int) (a9:ByteArray) (aa:ByteArray) (a6:Bool) (ab:ByteArray):Option ((List (aF)) × Int × ByteArray × Int × Bool × List ByteArray):=if a6=true then ((sZ.f k a5 a7).bind fun a8=>(some (a5,0,(⟨#[]⟩:ByteArray),0,false,a8))) else (some (a5,4,(⟨#[]⟩:ByteArray),0,false,([]:List ByteArray)))
def Aw.T3:Bool × List (List Nat × List Nat):=(true,[([],[]),([0],[0]),([],[]),([2],[2]),([],[]),([4],[4]),([5],[5]),([3,6],[3,6]),([7],[7]),([1,7,0,1],[1]),([8,9,0,1,2,3,4,5,6,7,8,9],[8])])
def Aw.B3:List Nat:=[0,1,0,4,0,16,48,124,252,255,1023]
theorem Aw.calls (k:Nat) (av:Int) (aw:Int) (ax:Int) (bH:Int) (nX:Nat→Prop) (eu:Option Addr) (d_:Nat) (bW:List (aF)) (az:Int) (aq:ByteArray) (b0:ByteArray) (b1:Int) (b2:Int) (am:ByteArray) (an:ByteArray) (ao:Bool) (ap:ByteArray) (r1:List (aF)) (r2:Int) (r3:ByteArray) (r4:Int) (r5:Bool) (r6:List ByteArray) (w:World) (jV:iK w) (DR:Kd.V aU 43 w w.heap.size (fun ay=>nX ay) (.slice eu bW.length d_) bW) (h:Aw.f k av aw ax bH bW az aq b0 b1 b2 am an ao ap=some (r1,r2,r3,r4,r5,r6)) :
  Calls Tryz.prog 120 #[.agg #[ah av,ah aw,ah ax,ah bH,.slice eu bW.length d_,ah az,.string aq,.string b0,ah b1,ah b2,.string am,.string an,.bool ao,.string ap]] w fun e w'=>∃ eP lY:Value,e=.returned (.tuple #[.agg #[eP],.agg #[ah r2,.string r3,ah r4,.bool r5,lY]])∧Kd.V aU 43 w' w.heap.size (fun ay=>(nX ay∨w.heap.size≤ay)∧some ay≠(lY:Value).ownBlock) eP r1∧Kd.R Kd.string 9 w' w.heap.size (fun ay=>(w.heap.size≤ay)) lY r6∧Below w.heap.size w w':=by
 have DT:=underlying90
 have mF:=underlying28
 have xM:=underlying49
 have lK:=m_ (show Kd.V aU 43 w w.heap.size (fun ay=>(nX ay∨w.heap.size≤ay)) (.slice eu bW.length d_) bW from Kd.iL DR (fun ay hk=>.inl hk))
 have HD:=m_ jV
 clear jV
 have HB:=m_ (Below.refl w.heap.size w)
 unfold Aw.f at h
 have H:=h
 clear h
 have b9:=m_ H
 clear H
 go_enter func120,ntmps120
 go_upto_if 7 with (first|((with_reducible refine dJ 1 ?_);refine dO 1 (cs:=#[ah av,ah aw,ah ax,ah bH,.slice eu bW.length d_,ah az,.string aq,.string b0,ah b1,ah b2,.string am,.string an,.bool ao,.string ap]) 90 ?_;intro aa hg w3 hbox hb;obtain ⟨lK,HB,a8,ba,bb⟩:=p_ (Kd.sV (Kd.vT wK aa (Nat.le_of_eq hg.symm)) hb) <| kL au hb hbox hg;clear hb hbox hg)|((with_reducible refine dJ 2 ?_);refine dO 2 (cs:=#[.slice none 0 0]) 28 ?_;intro af hg w4 hbox hb;obtain ⟨lK,a8,HB,ab,bc,bd,a6,ac⟩:=p_ (Kd.sV (Kd.vT wK af (Nat.le_of_eq hg.symm)) hb) <| pq (ak a8) au hb hbox hg;clear hb hbox hg)|((with_reducible refine dJ 3 ?_);refine dO 3 (cs:=#[ah 0,.string (⟨#[]⟩:ByteArray),ah 0,.bool false,.slice none 0 0]) 49 ?_;intro a7 hg w5 hbox hb;obtain ⟨lK,a8,ab,HB,a9,be,fA,a5,ae,aQ,al⟩:=p_ (Kd.sV (Kd.vT wK a7 (Nat.le_of_eq hg.symm)) hb) <| pU (ak a8) (ak ab) au hb hbox hg;clear hb hbox hg;obtain ⟨ag,aK,ai,aN⟩:=g_ a6 ac a5 ae;obtain ⟨QG,QH,QM,QN,QO,QS,QT,QU,QV,QW,QI,QJ,QK,QL⟩:=iq a8.out;obtain ⟨RJ,RN,RV,RX,RY,RZ,R_,Si,Sj,Sl,RP,RQ,RS,RU⟩:=jA a8.out))
 (try simp only [Act.put,List.setIfInBounds_toArray,List.set_cons_zero,List.set_cons_succ])
 (try clear ag ai aK aN)
 (try clear QG QH QI QJ QK QL QM QN QO QS QT QU QV QW)
 (try clear RJ RN RP RQ RS RU RV RX RY RZ R_ Si Sj Sl)
 obtain ⟨H⟩:=b9
 by_cases c9:ao=true
 rotate_left
 ·replace c9:=Bool.eq_false_iff.mpr c9
  subst c9
  rw [if_neg iI] at H
  simp only [Option.some.injEq,Prod.mk.injEq] at H
  obtain ⟨rfl,rfl,rfl,rfl,rfl,rfl⟩:=H
  obtain ⟨ag,aK,ai,aN⟩:=g_ a6 ac a5 ae
  obtain ⟨ana,anb,anh,ani,anj,ank,anl,anm,ano,anp,anc,ane,anf,ang⟩:=iq a8.out
  obtain ⟨atj,atl,atq,atr,att,atu,atv,atw,atx,aty,atm,atn,ato,atp⟩:=jA a8.out
  obtain ⟨ar,aW⟩:=gB aQ al
  have aA1:=dh ab.out
  have dM:=kK a9.out
  go_wp2
  refine bodyPost_ret (iR rfl _ _ af a7 28 49 #[.slice eu bW.length d_] #[ah 4,.string (⟨#[]⟩:ByteArray),ah 0,.bool false,.slice none 0 0] (0,0) (0,0) _ _ rfl aT underlying28 rfl aB rfl aT underlying49 rfl aB) rfl ?_
  exact ⟨_,_,bM,(by (with_reducible repeat (first|apply Kd.qh|apply Kd.qj|apply Kd.mQ));exact Kd.iL (Kd.fF (p:=⟨a7,4,none⟩) (Kd.fF (p:=⟨a7,3,none⟩) (Kd.fF (p:=⟨a7,2,none⟩) (Kd.fF (p:=⟨a7,1,none⟩) (Kd.fF (p:=⟨a7,0,none⟩) (Kd.fF (p:=⟨af,0,none⟩) (Kd.iL (Kd.iL lK.out (fun ay hk=>(⟨hk,hk.1.2⟩:_∧ay≠af))) (fun ay hk=>(⟨hk,hk.1.2⟩:_∧ay≠a7))) (fun _ hk=>hk.1.2) (.slice eu bW.length d_)) (fun _ hk=>hk.2) (ah 4)) (fun _ hk=>hk.2) (.string (⟨#[]⟩:ByteArray))) (fun _ hk=>hk.2) (ah 0)) (fun _ hk=>hk.2) (.bool false)) (fun _ hk=>hk.2) (.slice none 0 0)) (fun _ hk=>⟨hk.1.1.1.1.1,yJ⟩)),kD,au⟩
 subst c9
 rw [if_pos rfl] at H
 obtain ⟨b4,bh,H⟩:=bd_ H
 simp only [Option.some.injEq,Prod.mk.injEq] at H
 obtain ⟨rfl,rfl,rfl,rfl,rfl,rfl⟩:=H
 try go_wp2
 obtain ⟨lK,a8,ab,a9,HB⟩:=p_ (Kd.mQ lK.out) <| yU a8 ab a9 HB
 refine iT (n:=11) (S:=fun w'=>AZ w' aa (ah av) (ah aw) (ah ax) (ah bH) (.slice eu bW.length d_) (ah az) (.string aq) (.string b0) (ah b1) (ah b2) (.string am) (.string an) (.bool true) (.string ap)) (ds:=[]) Bl aB rfl rfl (iq a8.out) (fun hH=>?_);refine kE (T:=Aw.T3) (B:=Aw.B3) aB aB (fun aO fJ=>?_)
 generalize w5.drew=bi at lK a8 ab a9 HB hH ⊢
 refine bV 0 ?_
 refine bV 2 ?_
 refine bV 4 ?_
 refine cu 5 16 #[aj,F_,aj,F_,aj,aj,F_,F_,F_,F_,F_] aO ?_
 refine jZ 1 12 #[aj,aj,aj,F_,aj,aj,F_,F_,F_,F_,F_] aO fJ hH ?_
 refine lg 3 hH ?_
 refine lg 6 hH ?_
 refine oZ 7 (fun K hK=>?_)
 refine i_ func18 aB rfl #[.agg #[.slice eu bW.length d_],.string aq] (by rfl) rfl rfl aX ?_
 with_reducible refine (sZ.calls k _ _ bW aq b4 _ (iK.below HD.out au) ?wH ((Kd.vU lK.out).2.1) bh.out).mono ?_
 (case wH=>repeat (first|exact (Kd.vU lK.out).2.2|(with_reducible refine Kd.jO ?_ _)|(with_reducible refine Kd.jT ?_ _)|(with_reducible refine Kd.jS ?_)))
 rintro e b5 ⟨azD,rfl,ho0,hb⟩
 refine ⟨_,rfl,?_⟩
 obtain ⟨lK,b3,a8,ab,a9,HB⟩:=p_ (Kd.CY wK (Kd.jo ho0) hb) <| p_ (Kd.dI (Kd.yR (M:=fun ay=>(w.heap.size≤ay)) ho0 (cZ au) (fun ay dG=>dG)) (cZ au)) <| lD (ak a8) (ak ab) (ak a9) au hb
 (try clear hb)
 (try clear ho0)
 obtain ⟨b6,b7,b8⟩:=Kd.dK b3.out
 (first|subst b8|(injection b8 with dV gU dW;have gV:=dV.symm;have gW:=dW.symm;clear dV gU dW;subst gV;subst gW))
 refine hK.out _ _ (iq a8.out) (fun hH=>?_)
 clear hK K
 refine eX (some 18) ?_
 refine bV 8 ?_
 refine oZ 9 (fun K hK=>?_)
 have aw0:b5.cell? ⟨af,0,none⟩=some (.slice none 0 0):=(aP ab.out 0).trans rfl
 have aqk:=bP ab.out 0
 obtain ⟨ag,aW,aK,ar⟩:=g_ a6 al ac aQ
 refine iM (w1:=?_) (by rfl) rfl ?_ ?_
 rotate_left
 ·go_simp
  rfl
 refine hK.out _ _ ⟨(aG a6 hH.1),(aG a6 hH.2.1),(aG a6 hH.2.2.1),(aG a6 hH.2.2.2.1),(aG a6 hH.2.2.2.2.1),(aG a6 hH.2.2.2.2.2.1),(aG a6 hH.2.2.2.2.2.2.1),(aG a6 hH.2.2.2.2.2.2.2.1),(aG a6 hH.2.2.2.2.2.2.2.2.1),(aG a6 hH.2.2.2.2.2.2.2.2.2.1),(aG a6 hH.2.2.2.2.2.2.2.2.2.2.1),(aG a6 hH.2.2.2.2.2.2.2.2.2.2.2.1),(aG a6 hH.2.2.2.2.2.2.2.2.2.2.2.2.1),(aG a6 hH.2.2.2.2.2.2.2.2.2.2.2.2.2)⟩ (fun hH=>?_)
 clear hK K
 refine oZ 10 (fun K hK=>?_)
 have aw7:b5.cell? ⟨a7,0,none⟩=some (ah 0):=(aP a9.out 0).trans rfl
 have aqs:=bP a9.out 0
 obtain ⟨ai,aN⟩:=gB a5 ae
 have aw_:b5.cell? ⟨a7,1,none⟩=some (.string (⟨#[]⟩:ByteArray)):=(aP a9.out 1).trans rfl
 have aqv:=bP a9.out 1
 have aw':b5.cell? ⟨a7,2,none⟩=some (ah 0):=(aP a9.out 2).trans rfl
 have aqw:=bP a9.out 2
 have aiC:b5.cell? ⟨a7,3,none⟩=some (.bool false):=(aP a9.out 3).trans rfl
 have afS:=bP a9.out 3
 have axf:b5.cell? ⟨a7,4,none⟩=some (.slice none 0 0):=(aP a9.out 4).trans rfl
 have aqC:=bP a9.out 4
 refine iM (w1:=?_) (by rfl) rfl ?_ ?_
 rotate_left
 ·go_simp
  rfl
 refine hK.out _ _ ⟨(aG a5 (aG a5 (aG a5 (aG a5 (aG a5 hH.1))))),(aG a5 (aG a5 (aG a5 (aG a5 (aG a5 hH.2.1))))),(aG a5 (aG a5 (aG a5 (aG a5 (aG a5 hH.2.2.1))))),(aG a5 (aG a5 (aG a5 (aG a5 (aG a5 hH.2.2.2.1))))),(aG a5 (aG a5 (aG a5 (aG a5 (aG a5 hH.2.2.2.2.1))))),(aG a5 (aG a5 (aG a5 (aG a5 (aG a5 hH.2.2.2.2.2.1))))),(aG a5 (aG a5 (aG a5 (aG a5 (aG a5 hH.2.2.2.2.2.2.1))))),(aG a5 (aG a5 (aG a5 (aG a5 (aG a5 hH.2.2.2.2.2.2.2.1))))),(aG a5 (aG a5 (aG a5 (aG a5 (aG a5 hH.2.2.2.2.2.2.2.2.1))))),(aG a5 (aG a5 (aG a5 (aG a5 (aG a5 hH.2.2.2.2.2.2.2.2.2.1))))),(aG a5 (aG a5 (aG a5 (aG a5 (aG a5 hH.2.2.2.2.2.2.2.2.2.2.1))))),(aG a5 (aG a5 (aG a5 (aG a5 (aG a5 hH.2.2.2.2.2.2.2.2.2.2.2.1))))),(aG a5 (aG a5 (aG a5 (aG a5 (aG a5 hH.2.2.2.2.2.2.2.2.2.2.2.2.1))))),(aG a5 (aG a5 (aG a5 (aG a5 (aG a5 hH.2.2.2.2.2.2.2.2.2.2.2.2.2)))))⟩ (fun hH=>?_)
 clear hK K
 refine iP (ku aO.out aB) ?_
 try go_wp2
 refine bodyPost_ret (iR rfl _ _ af a7 28 49 #[.slice eu bW.length d_] #[ah 0,.string (⟨#[]⟩:ByteArray),ah 0,.bool false,.slice b6 b4.length b7] (0,0) (0,0) _ _ rfl aT underlying28 rfl aB rfl aT underlying49 rfl aB) rfl ?_
 exact ⟨_,_,bM,(by (with_reducible repeat (first|apply Kd.qh|apply Kd.qj|apply Kd.mQ));exact Kd.iL (Kd.fF (p:=⟨a7,4,none⟩) (Kd.fF (p:=⟨a7,3,none⟩) (Kd.fF (p:=⟨a7,2,none⟩) (Kd.fF (p:=⟨a7,1,none⟩) (Kd.fF (p:=⟨a7,0,none⟩) (Kd.fF (p:=⟨af,0,none⟩) (Kd.iL (Kd.iL lK.out (fun ay hk=>(⟨hk,hk.1.1.2⟩:_∧ay≠af))) (fun ay hk=>(⟨hk,hk.1.1.2⟩:_∧ay≠a7))) (fun _ hk=>hk.1.2) (.slice eu bW.length d_)) (fun _ hk=>hk.2) (ah 0)) (fun _ hk=>hk.2) (.string (⟨#[]⟩:ByteArray))) (fun _ hk=>hk.2) (ah 0)) (fun _ hk=>hk.2) (.bool false)) (fun _ hk=>hk.2) (.slice b6 b4.length b7)) (fun _ hk=>⟨hk.1.1.1.1.1.1,hk.1.1.2⟩)),(by (with_reducible repeat (first|apply Kd.dB|apply Kd.dD|apply Kd.aZ));exact Kd.bn (aH (aH (aH (aH (aH (aH (Kd.bQ (Kd.bQ b3.out ab.out (by decide)) a9.out (by decide)) (fun _ hk=>hk.1.2))))))) (fun _ hk=>hk.1.1.1)),au⟩

end Go.Proofs.YthejdhjpbpamoaaGreatDoor.jD
