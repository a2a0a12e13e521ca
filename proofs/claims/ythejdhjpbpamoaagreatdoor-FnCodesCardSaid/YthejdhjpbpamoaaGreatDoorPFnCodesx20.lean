/- Contracts of Go functions: each call returns what the Lean function beside it computes. Conditions: as each theorem states them. -/
import Derived.Test.YthejdhjpbpamoaaGreatDoorPkFnCodes
import Derived.Test.YthejdhjpbpamoaaGreatDoorPFnCodesx1
import Derived.Test.YthejdhjpbpamoaaGreatDoorPFnCodesx19
namespace Go.Proofs.YthejdhjpbpamoaaGreatDoor.jD
open Go.RowKit Go.Proofs.YthejdhjpbpamoaaGreatDoorW.iw Go.Proofs.YthejdhjpbpamoaaGreatDoorW.lH Go.Proofs.YthejdhjpbpamoaaGreatDoorW.oO Go.Proofs.Tryz
attribute [local go_sem] qw qB qA qF qy qE qx qC   -- for this text's walks alone
set_option linter.unusedVariables false
set_option maxHeartbeats 8000000
set_option maxRecDepth 100000
set_option linter.unusedSimpArgs false

mutual
def iZ.l0:Nat→ByteArray→ByteArray→Int→List (aF)→List (aF)→Option ((List (aF)))
 | 0,_,_,_,_,_=>none
 | k+1,x1,x2,gX,a5,a6=>if gX < (a5.length:Int) then (if 0≤gX then (if ((aC a5 gX).f0).toList=x1.toList then (iZ.j1 k x1 x2 gX true a5 a6 ((aC a5 gX).f0) ((aC a5 gX).f1) ((aC a5 gX).f2)) else ((pz.f k ((aC a5 gX).f0) x1).bind fun a7=>(iZ.j1 k x1 x2 gX a7 a5 a6 ((aC a5 gX).f0) ((aC a5 gX).f1) ((aC a5 gX).f2)))) else (none)) else (some a6)
def iZ.j1:Nat→ByteArray→ByteArray→Int→Bool→List (aF)→List (aF)→ByteArray→Bool→ByteArray→Option ((List (aF)))
 | 0,_,_,_,_,_,_,_,_,_=>none
 | k+1,x1,x2,gX,ac,a6,a7,a5,a8,a9=>if ac=true then (if 0≤(x1.size:Int) then (if (x1.size:Int)≤(a5.size:Int) then ((some (a5.extract ((x1.size:Int):Int).toNat a5.size:ByteArray)).bind fun aa=>(if x2.size+aa.size≤9223372036854775807 then ((some (x2++aa:ByteArray)).bind fun ab=>(iZ.j2 k x1 x2 gX a6 a7 ab a8 a9)) else (none))) else (none)) else (none)) else (iZ.j2 k x1 x2 gX a6 a7 a5 a8 a9)
def iZ.j2:Nat→ByteArray→ByteArray→Int→List (aF)→List (aF)→ByteArray→Bool→ByteArray→Option ((List (aF)))
 | 0,_,_,_,_,_,_,_,_=>none
 | k+1,x1,x2,gX,a5,a6,a7,a8,a9=>iZ.l1 k x1 x2 gX 0 a5 a6 a7 a8 a9
def iZ.l1:Nat→ByteArray→ByteArray→Int→Int→List (aF)→List (aF)→ByteArray→Bool→ByteArray→Option ((List (aF)))
 | 0,_,_,_,_,_,_,_,_,_=>none
 | k+1,x1,x2,gX,aa,a7,a5,a6,a8,a9=>if aa < (a5.length:Int) then (if 0≤aa then (if ((Op.bytesLess a6.toList (((aC a5 aa).f0).toList))=true) then ((some (([]:List (aF)):List (aF))).bind fun ab=>(if aa≤(a5.length:Int) then ((some (a5.take (aa:Int).toNat:List (aF))).bind fun ac=>(if ab.length+ac.length < 3518437208883 then ((some (ab++ac:List (aF))).bind fun ae=>((some (([(⟨a6,a8,a9⟩:aF)]:List (aF)):List (aF))).bind fun af=>(if ae.length+af.length < 3518437208883 then ((some (ae++af:List (aF))).bind fun ag=>((some (a5.drop (aa:Int).toNat:List (aF))).bind fun aK=>(if ag.length+aK.length < 3518437208883 then (iZ.l0 k x1 x2 (wrap64 (gX+1)) a7 (ag++aK)) else (none)))) else (none)))) else (none))) else (none))) else (iZ.l1 k x1 x2 gX (wrap64 (aa+1)) a7 a5 a6 a8 a9)) else (none)) else ((some (([]:List (aF)):List (aF))).bind fun ai=>(if 0≤aa then (if aa≤(a5.length:Int) then ((some (a5.take (aa:Int).toNat:List (aF))).bind fun aN=>(if ai.length+aN.length < 3518437208883 then ((some (ai++aN:List (aF))).bind fun aQ=>((some (([(⟨a6,a8,a9⟩:aF)]:List (aF)):List (aF))).bind fun al=>(if aQ.length+al.length < 3518437208883 then ((some (aQ++al:List (aF))).bind fun am=>((some (a5.drop (aa:Int).toNat:List (aF))).bind fun an=>(if am.length+an.length < 3518437208883 then (iZ.l0 k x1 x2 (wrap64 (gX+1)) a7 (am++an)) else (none)))) else (none)))) else (none))) else (none)) else (none)))
end
def iZ.f (k:Nat) (a5:List (aF)) (a1:ByteArray) (a2:ByteArray):Option ((List (aF))):=iZ.l0 k a1 a2 0 a5 ([]:List (aF))
def iZ.T9:Bool × List (List Nat × List Nat):=(true,[([],[]),([],[]),([1],[1]),([2],[2]),([0,3],[0,3]),([4],[4]),([5],[5]),([6,5],[5,6]),([5],[5]),([7,8,5],[5,7,8]),([9,5],[5,9]),([10,5],[5,10]),([5],[5]),([12,5],[5,12]),([11,13,5],[5,11,13]),([5,14],[5,14])])
def iZ.B9:List Nat:=[0,0,2,6,15,31,63,127,63,511,1023,2047,63,4159,16383,32767]
theorem iZ.J7:kZ .any (opsOf Tryz.f11 9)=iZ.T9:=by kernel_rfl
theorem iZ.IU:uS iZ.T9.2 iZ.B9=true:=by kernel_rfl
def iZ.T11:Bool × List (List Nat × List Nat):=(true,[([],[]),([],[]),([1],[1]),([],[]),([2,3],[2,3]),([0,4],[0,4]),([],[]),([6],[6]),([5,7,5],[5,7]),([8,8,0,1,2,3,4,5,6,7,8],[8])])
def iZ.B11:List Nat:=[0,0,2,0,14,31,0,64,255,511]
theorem iZ.aac:kZ .any (opsOf Tryz.f11 11)=iZ.T11:=by kernel_rfl
theorem iZ.Vw:uS iZ.T11.2 iZ.B11=true:=by kernel_rfl
theorem iZ.calls (k:Nat) (d2:Option Addr) (aQ:Nat) (aI:List (aF)) (a1:ByteArray) (a2:ByteArray) (r:List (aF)) (w:World) (d9:Kd.C aU w d2 aI.length aI) (da:aI.length≤aQ) (h:iZ.f k aI a1 a2=some r) :
  Calls Tryz.prog 11 #[.agg #[.slice d2 aI.length aQ],.string a1,.string a2] w fun e w'=>∃ eP:Value,e=.returned (.agg #[eP])∧Kd.R aU 43 w' w.heap.size (fun _=>True) eP r∧Below w.heap.size w w':=by
 have mF:=underlying28
 have uf:=underlying43
 have lq:=m_ d9
 have fs:=m_ da
 clear d9 da
 have HB:=m_ (Below.refl w.heap.size w)
 unfold iZ.f at h
 have H:=h
 clear h
 have H':=m_ H
 clear H
 go_enter func11,ntmps11
 go_wp2_with (first|((with_reducible refine dJ 3 ?_);refine dO 3 (cs:=#[.slice d2 aI.length aQ]) 28 ?_;intro ai hg w4 hbox hb;obtain ⟨HB,a7,ft,fu⟩:=kL au hb hbox hg;clear hb hbox hg)|((with_reducible refine dJ 6 ?_);refine dO 6 (cs:=#[.slice none 0 0]) 28 ?_;intro aK hg w5 hbox hb;obtain ⟨a7,HB,a8,fw,fx,b1,b2⟩:=pq (ak a7) au hb hbox hg;clear hb hbox hg)|((with_reducible refine dJ 7 ?_);refine dO 7 (cs:=#[.slice none 0 0]) 28 ?_;intro ab hg w6 hbox hb;obtain ⟨a7,a8,HB,a6,fy,fz,an,ao,ap,aq⟩:=pU (ak a7) (ak a8) au hb hbox hg;clear hb hbox hg;obtain ⟨al,am,aw,ax⟩:=g_ ao an aq ap;have Ey:=dh a6.out))
 go_loopg [8] k (fun kq v8 w'=>∃ (dH:Int) (a5:List (aF)) (zT:Value),v8=ah dH∧aA (iZ.l0 kq a1 a2 dH aI a5=some r)∧aA (kq≤k)∧aA (Kd.R aU 43 w' w.heap.size (fun _=>True) zT a5)∧aA (w'.heap[ai]?=some (.cells #[(.slice d2 aI.length aQ)] 28))∧aA (w'.heap[aK]?=some (.cells #[(.slice none 0 0)] 28))∧aA (w'.heap[ab]?=some (.cells #[zT] 28))∧aA (Below w.heap.size w w'))
 case atStart=>exact ⟨(0),(([]:List (aF))),(.slice none 0 0),bg,H',⟨Nat.le_refl _⟩,⟨kD⟩,⟨aT⟩,⟨aT⟩,⟨aT⟩,⟨au⟩⟩
 case round =>
 clear H'
 try clear Ey
 obtain ⟨dH,a5,zT,rfl,HA,gZ,eY,a7,a8,a6,HB⟩:=hrel
 cases gk with
 | zero=>exact absurd HA.out (by simp [iZ.l0])
 | succ k1 =>
 obtain ⟨H⟩:=HA
 simp only [iZ.l0] at H
 have e7:=m_ H
 clear H
 obtain ⟨bH,az⟩:=gB b1 b2
 have Ce:=dh a7.out
 go_upto_if 17 with (fail)
 (try clear bH am az ax al aw)
 (try clear Ce)
 obtain ⟨H⟩:=e7
 revert H;refine gJ (fun b4 H=>?_) fun b4 H=>?_
 rotate_left
 ·try simp only [aY,bf,b4]
  obtain rfl:=dF H
  obtain ⟨al,am,aw,ax⟩:=g_ ao an aq ap
  have aAK:=dh a6.out
  obtain ⟨e8,e9,ea⟩:=Kd.dK eY.out
  subst ea
  have aAL:=dh a8.out
  go_wp2
  refine bodyPost_ret (results_cell_row rfl _ _ aK 28 #[.slice e8 a5.length e9] (0,0) _ rfl aT underlying28 rfl aB) rfl ?_
  exact ⟨_,bM,(by (with_reducible repeat (first|apply Kd.dB|apply Kd.dD|apply Kd.aZ));exact Kd.bn (aH (Kd.bQ eY.out a8.out (by decide))) (fun _ hk=>trivial)),au⟩
 try simp only [aY,bf,b4]
 obtain ⟨cn,H⟩:=gK H
 have lF:=m_ H
 clear H
 obtain ⟨bH,az,am,al⟩:=g_ b1 b2 an ao
 have aaT:=dh a7.out
 have ca:0≤(dH:Int):=bF bG
 have cc:dH < (aI.length:Int):=bF bG
 obtain ⟨aN,ez,ar,aW,av⟩:=kY lq.out dH ca cc
 cases ez
 replace ar:=iQ HB.out ar
 replace aW:=iQ HB.out aW
 replace av:=iQ HB.out av
 replace ca:=eq_true ca
 replace cc:=eq_true cc
 go_upto_region 6 with (first|((with_reducible refine dJ 9 ?_);refine dO 9 (cs:=#[.string (⟨#[]⟩:ByteArray),.bool false,.string (⟨#[]⟩:ByteArray)]) 43 ?_;intro fO hg ip hbox hb;obtain ⟨eY,a7,a8,a6,HB,dY,g7,g8,b8,cd,b9,ce,b3,ba⟩:=p_ (Kd.dw (Kd.O6 (aJ eY) fO (Nat.le_of_eq hg.symm)) hb) <| vI (ak a7) (ak a8) (ak a6) au hb hbox hg;clear hb hbox hg;obtain ⟨co,cp,cq,cr,bo,bp⟩:=kJ cd b8 ce b9 ba b3;have bs:=uw dY.out))
 (try simp only [Act.put,List.setIfInBounds_toArray,List.set_cons_zero,List.set_cons_succ])
 go_cut [34] (fun v34 wc=>∃ (kq:Nat) (fA:Bool),v34=.bool fA∧aA (iZ.j1 kq a1 a2 dH fA aI a5 ((aC aI dH).f0) ((aC aI dH).f1) ((aC aI dH).f2)=some r)∧aA (kq≤k1)∧aA (Kd.R aU 43 wc w.heap.size (fun ay=>ay≠fO) zT a5)∧aA (wc.heap[ai]?=some (.cells #[(.slice (some aN) aI.length aQ)] 28))∧aA (wc.heap[aK]?=some (.cells #[(.slice none 0 0)] 28))∧aA (wc.heap[ab]?=some (.cells #[zT] 28))∧aA (wc.heap[fO]?=some (.cells #[.string ((aC aI dH).f0),.bool ((aC aI dH).f1),.string ((aC aI dH).f2)] 43))∧aA (Below w.heap.size w wc))
 case first =>
  obtain ⟨H⟩:=lF
  revert H;refine fH (fun d1 H=>?_) fun d1 H=>?_
  ·have b5:=fZ d1
   have bu:=f_ d1
   clear d1
   try simp only [aY,bf,b5]
   have H':=m_ H
   clear H
   have cf:=uw dY.out
   go_wp2
   go_meet
   case rel=>exact ⟨_,(true),bg,H',⟨NR⟩,⟨(by (with_reducible repeat (first|apply Kd.dB|apply Kd.dD|apply Kd.aZ));exact Kd.bn (aH (aH (aH (Kd.bn eY.out (fun ay hk=>(⟨hk,hk.2⟩:_∧ay≠fO)))))) (fun _ hk=>hk.1.2))⟩,⟨aT⟩,⟨aT⟩,⟨aT⟩,⟨aT⟩,⟨au⟩⟩
  have b5:=fP d1
  have bu:=fQ d1
  try simp only [aY,bf,b5]
  obtain ⟨ec,ib,H⟩:=bd_ H
  have H':=m_ H
  clear H
  have cg:=uw dY.out
  go_wp2_with (first|(go_at_call 15;(with_reducible refine (pz.calls k1 ((aC aI dH).f0) a1 ec _ ib.out).mono ?_);rintro e G6 ⟨rfl,hb⟩;have gy:=p_ (Kd.dw (by (with_reducible repeat (first|apply Kd.dB|apply Kd.dD|apply Kd.aZ));exact (Kd.bn (aH (aH (aH (Kd.bn eY.out (fun ay hk=>(⟨hk,hk.2⟩:_∧ay≠fO)))))) (fun _ dG=>dG.1))) hb) <| p_ (bZ (g:=ai) (o:=.cells #[.slice (some aN) aI.length aQ] 28) (nO a7.out b8.out) hb) <| p_ (bZ (g:=aK) (o:=.cells #[.slice none 0 0] 28) (nO a8.out b9.out) hb) <| p_ (bZ (g:=ab) (o:=.cells #[zT] 28) (nO a6.out b3.out) hb) <| p_ (bZ (g:=fO) (o:=.cells #[.string ((aC aI dH).f0),.bool ((aC aI dH).f1),.string ((aC aI dH).f2)] 43) (yB dY.out) hb) <| a_ (dP au hb);clear eY a7 a8 a6 dY HB;obtain ⟨eY,a7,a8,a6,dY,HB⟩:=gy;(try clear hb);(try clear hk)))
  go_meet
  case rel=>exact ⟨_,(ec),bg,H',⟨NR⟩,⟨(by (with_reducible repeat (first|apply Kd.dB|apply Kd.dD|apply Kd.aZ));exact Kd.bn eY.out (fun _ hk=>hk.2))⟩,⟨(ak a7)⟩,⟨(ak a8)⟩,⟨(ak a6)⟩,⟨(ak dY)⟩,⟨au⟩⟩
 case rest =>
 clear lF
 try clear d3;try clear b4;try clear eb;try clear cn;try clear aaT;try clear bs;try clear aaT;try clear ar;try clear aW;try clear av;try clear ca;try clear cc
 obtain ⟨kq,fA,rfl,HA,EF,eY,a7,a8,a6,dY,HB⟩:=hcut
 cases kq with
 | zero=>exact absurd HA.out (by simp [iZ.j1])
 | succ Tz =>
 obtain ⟨H⟩:=HA
 simp only [iZ.j1] at H
 have dp:=m_ H
 clear H
 go_upto_if 34 with (fail)
 go_cut [] (fun wc=>∃ (kq:Nat) (jB:ByteArray),aA (iZ.j2 kq a1 a2 dH aI a5 jB ((aC aI dH).f1) ((aC aI dH).f2)=some r)∧aA (kq≤Tz)∧aA (Kd.R aU 43 wc w.heap.size (fun ay=>ay≠fO) zT a5)∧aA (wc.heap[ai]?=some (.cells #[(.slice (some aN) aI.length aQ)] 28))∧aA (wc.heap[aK]?=some (.cells #[(.slice none 0 0)] 28))∧aA (wc.heap[ab]?=some (.cells #[zT] 28))∧aA (wc.heap[fO]?=some (.cells #[.string jB,.bool ((aC aI dH).f1),.string ((aC aI dH).f2)] 43))∧aA (Below w.heap.size w wc))
 case first =>
  obtain ⟨H⟩:=dp
  by_cases e3:fA=true
  rotate_left
  ·replace e3:=Bool.eq_false_iff.mpr e3
   subst e3
   rw [if_neg iI] at H
   have H':=m_ H
   clear H
   go_wp2
   go_meet
   case rel=>exact ⟨_,(((aC aI dH).f0)),H',⟨(by have:=gZ.out;have:=EF.out;first|omega|exact Nat.le_refl _)⟩,⟨(aJ eY)⟩,⟨(ak a7)⟩,⟨(ak a8)⟩,⟨(ak a6)⟩,⟨(ak dY)⟩,⟨au⟩⟩
  subst e3
  rw [if_pos rfl] at H
  obtain ⟨db,dd,H⟩:=jE H
  obtain ⟨de,df,H⟩:=jE H
  obtain ⟨d4,dg⟩:∃ y_:ByteArray,(((aC aI dH).f0).extract ((a1.size:Int):Int).toNat ((aC aI dH).f0).size)=y_:=⟨_,rfl⟩
  replace H:(if a2.size+d4.size≤9223372036854775807 then ((some (a2++d4:ByteArray)).bind fun d5=>(iZ.j2 Tz a1 a2 dH aI a5 d5 ((aC aI dH).f1) ((aC aI dH).f2))) else (none))=some r:=by rw [← dg];exact (Option.bind_some _ _).symm.trans H
  (try simp only [Int.toNat_natCast] at dg)
  obtain ⟨e4,H⟩:=kV H
  have lN:=eq_true e4
  have di:=mM e4
  try have dj:(9223372036854775807 < a2.size+d4.size)=False:=eq_false (Nat.not_lt.2 e4)
  clear e4
  obtain ⟨d5,dk⟩:∃ y_:ByteArray,(a2++d4)=y_:=⟨_,rfl⟩
  replace H:(iZ.j2 Tz a1 a2 dH aI a5 d5 ((aC aI dH).f1) ((aC aI dH).f2))=some r:=by rw [← dk];exact (Option.bind_some _ _).symm.trans H
  (try simp only [Int.toNat_natCast] at dk)
  have H':=m_ H
  clear H
  have d6:=uw dY.out
  go_wp2
  go_meet
  case rel=>exact ⟨_,(d5),H',⟨(by have:=gZ.out;have:=EF.out;first|omega|exact Nat.le_refl _)⟩,⟨(by (with_reducible repeat (first|apply Kd.dB|apply Kd.dD|apply Kd.aZ));exact Kd.bn (aH (Kd.bn eY.out (fun ay hk=>(⟨hk,hk⟩:_∧ay≠fO)))) (fun _ hk=>hk.1))⟩,⟨aT⟩,⟨aT⟩,⟨aT⟩,⟨aT⟩,⟨au⟩⟩
 case rest =>
 clear dp
 obtain ⟨kq,jB,HA,KC,eY,a7,a8,a6,dY,HB⟩:=hcut
 cases kq with
 | zero=>exact absurd HA.out (by simp [iZ.j2])
 | succ Zg =>
 obtain ⟨H⟩:=HA
 simp only [iZ.j2] at H
 have H':=m_ H
 clear H
 go_wp2
 go_loopg [10] Zg (fun kq v10 w'=>∃ (a9:Int),v10=ah a9∧aA (iZ.l1 kq a1 a2 dH a9 aI a5 jB ((aC aI dH).f1) ((aC aI dH).f2)=some r)∧aA (kq≤Zg)∧aA (Kd.R aU 43 w' w.heap.size (fun ay=>ay≠fO) zT a5)∧aA (w'.heap[ai]?=some (.cells #[(.slice (some aN) aI.length aQ)] 28))∧aA (w'.heap[aK]?=some (.cells #[(.slice none 0 0)] 28))∧aA (w'.heap[ab]?=some (.cells #[zT] 28))∧aA (w'.heap[fO]?=some (.cells #[.string jB,.bool ((aC aI dH).f1),.string ((aC aI dH).f2)] 43))∧aA (Below w.heap.size w w'))
 case atStart=>exact ⟨(0),bg,H',⟨Nat.le_refl _⟩,⟨(aJ eY)⟩,⟨(ak a7)⟩,⟨(ak a8)⟩,⟨(ak a6)⟩,⟨(ak dY)⟩,⟨au⟩⟩
 case round =>
 clear H'
 obtain ⟨a9,rfl,HA,KE,eY,a7,a8,a6,dY,HB⟩:=hrel
 cases gk with
 | zero=>exact absurd HA.out (by simp [iZ.l1])
 | succ k4 =>
 obtain ⟨H⟩:=HA
 simp only [iZ.l1] at H
 revert H;refine gJ (fun ef H=>?_) fun ef H=>?_
 rotate_left
 ·obtain ⟨dq,bv,H⟩:=vH H
  obtain ⟨yu,gr,H⟩:=jE H
  obtain ⟨gs,gt,H⟩:=jE H
  obtain ⟨b6,bq,H⟩:=vH H
  obtain ⟨Am,H⟩:=kV H
  have ct:=m_ Am
  clear Am
  obtain ⟨dr,iO,H⟩:=vH H
  obtain ⟨dM,bb,H⟩:=vH H
  obtain ⟨gv,H⟩:=kV H
  have eh:=m_ gv
  clear gv
  obtain ⟨ei,ej,H⟩:=vH H
  have gw:=eq_true (bF bG:0≤a9)
  have gx:=eq_true (bF bG:a9≤(a5.length:Int))
  obtain ⟨bh,cv,H⟩:=vH H
  obtain ⟨Ap,H⟩:=kV H
  have ek:=m_ Ap
  clear Ap
  obtain ⟨dt,cw⟩:∃ y_:List (aF),y_=(ei++bh):=⟨_,rfl⟩
  rw [← cw] at H
  have el:=m_ cw
  clear cw
  have H':=m_ H
  clear H
  try go_wp2
  obtain ⟨eY,a7,a8,a6,dY,HB⟩:=p_ (Kd.aZ eY.out) <| wV a7 a8 a6 dY HB
  obtain ⟨ac,ae,em⟩:=Kd.dK eY.out
  (first|subst em|(injection em with dV gU dW;have gV:=dV.symm;have gW:=dW.symm;clear dV gU dW;subst gV;subst gW))
  refine iT (n:=16) (S:=fun w'=>w'.cell? ⟨ab,0,none⟩=some (.slice ac a5.length ae)) (ds:=[]) PS aB rfl rfl ((aP a6.out 0).trans rfl) (fun hH=>?_);refine kE iZ.J7 iZ.IU (fun aO fJ=>?_)
  generalize wr.drew=DU at eY a7 a8 a6 dY HB hH ⊢
  refine cu 0 43 VI aO ?_
  refine cu 1 44 VJ aO ?_
  refine lI (i:=2) (N:=some 45) (v:=?_) (a':=?_) VK rfl rfl (xU aO.out fJ.out aB) (fun _ _ _ h=>h) (Or.inl ⟨(by rfl),?_⟩) hH ?_ ?_
  rotate_left
  ·intro w' s0
   go_simp
   with_reducible rfl
  rotate_left
  ·simp only [Act.put,List.setIfInBounds_toArray,List.set_cons_zero,List.set_cons_succ,aY,bf]
   rfl
  refine cu 3 46 VL aO ?_
  refine cu 4 47 VN aO ?_
  refine cu 5 48 VO aO ?_
  refine vO 6 49 PU aO ?_
  refine vO 7 50 VP aO ?_
  refine vO 8 51 VQ aO ?_
  refine vO 9 52 VR aO ?_
  refine vO 10 53 VT aO ?_
  refine vO 11 54 VU aO ?_
  refine vO 12 55 PV aO ?_
  refine vO 13 56 ES aO ?_
  refine vO 14 57 PW aO ?_
  refine cu 15 58 PX aO ?_
  refine iP (ku aO.out aB) ?_
  try go_wp2
  obtain ⟨eY,a7,a8,a6,dY,HB⟩:=p_ (Kd.aZ eY.out) <| wV a7 a8 a6 dY HB
  have fa:(a9:Int)≤((a5.length:Int):Int):=bF bG
  obtain ⟨ayK,YP,_,aiR,_⟩:=info_parts pV
  have YW:a5.length≤ae:=(Kd.dN eY.out).2.1
  have XB:Kd.C aU _ ac a5.length a5:=(Kd.dN eY.out).2.2
  have adl:=Dl (P:=Tryz.prog) 26 43 .i64 underlying26 YP ac a5.length ae a9 (bF bG) fa YW
  have S_:=Kd.xu (m:=(a9:Int).toNat) XB (by omega)
  have du:b6.length=(a9:Int).toNat:=(by rw [bq.out,List.length_take];omega)
  rw [← bq.out] at S_
  rw [← du] at adl
  have wQ:=m_ S_
  have gz:=m_ (show b6.length≤ae from by omega)
  clear S_ XB YW YP aiR
  have alM:=m_ du
  clear du
  have OY:=m_ (show (a9:Int).toNat≤a5.length from by omega)
  replace fa:=eq_true fa
  refine iT (n:=10) (S:=fun w'=>jQ w' ab (.slice ac a5.length ae) <| A8 w' fO (.string jB) (.bool ((aC aI dH).f1)) (.string ((aC aI dH).f2))) (ds:=[]) PY aB rfl rfl ⟨(aP a6.out 0).trans rfl,sG dY.out⟩ (fun hH=>?_);refine kE iZ.aac iZ.Vw (fun aO fJ=>?_)
  generalize DU.drew=ir at eY a7 a8 a6 dY HB wQ hH ⊢
  refine cu 1 62 PZ aO ?_
  refine cu 3 64 Pq aO ?_
  refine jZ 2 63 VW aO fJ hH ?_
  refine cu 4 65 VX aO ?_
  refine jZ 6 67 VY aO fJ hH ?_
  refine yx (σ:=Value × Value × Value) 2 Ac (fun s_=>[(61,s_.1),(66,s_.2.1),(68,s_.2.2)]) (fun s_ w'=>(jQ w' ab (.slice ac a5.length ae) <| A8 w' fO (.string jB) (.bool ((aC aI dH).f1)) (.string ((aC aI dH).f2)))∧(Kd.R aU 43 w' w.heap.size (fun ay=>some ay≠(s_.2.2:Value).ownBlock∧some ay≠(.slice ac a5.length ae:Value).ownBlock∧ay≠fO) s_.2.1 dr)∧(Kd.R aU 43 w' w.heap.size (fun ay=>some ay≠(s_.2.1:Value).ownBlock∧some ay≠(.slice ac a5.length ae:Value).ownBlock∧ay≠fO) s_.2.2 dM)∧(Kd.R aU 43 w' w.heap.size (fun ay=>some ay≠(s_.2.1:Value).ownBlock∧some ay≠(s_.2.2:Value).ownBlock∧ay≠fO) (.slice ac a5.length ae) a5)∧(w'.heap[ai]?=some (.cells #[.slice (some aN) aI.length aQ] 28))∧(w'.heap[aK]?=some (.cells #[.slice none 0 0] 28))∧(w'.heap[ab]?=some (.cells #[.slice ac a5.length ae] 28))∧(w'.heap[fO]?=some (.cells #[.string jB,.bool ((aC aI dH).f1),.string ((aC aI dH).f2)] 43))∧(Below w.heap.size w w')) ?_ ?_
  rotate_left
  ·intro uM
   refine yM (i:=0) (j:=7) (Ni:=some 61) (uJ:=some 68) VZ V3 rfl rfl rfl rfl (yN aO.out aB) (by decide) (by decide) (fun K hK=>?_) (fun K hK=>?_)
   ·skip
    refine Kd.x9 aU _ 43 ?hg (N:=61) ?hd (xs:=([]:List (aF))) (inner:=[]) (ok:=fun _=>True) (iJ:=fun _=>True) ?hr ?hp (fun _ hk=>hk) trivial (Below.refl _ _) (Nat.le_refl _) (by simp) ?_;(case hd=>rfl);(case hg=>rfl);(case hr=>first|(go_simp;done)|(go_simp;rfl));(case hp=>exact (bD.none _ _))
    intro Cb ii xJ hb iV iW
    clear iV iW
    (first|rw [← bv.out] at xJ|(simp only [Int.reduceToNat] at xJ;rw [← bv.out] at xJ))
    obtain ⟨eY,af,a7,a8,a6,dY,wQ,HB⟩:=p_ (Kd.jX (aJ eY) (Kd.jo xJ) hb) <| p_ (Kd.dI (Kd.vS (Kd.jY xJ (Kd.jJ (aJ eY))) (g:=fO) (o:=.cells #[.string jB,.bool ((aC aI dH).f1),.string ((aC aI dH).f2)] 43) (ak dY)) (cZ au)) <| p_ (bZ (ak a7) hb) <| p_ (bZ (ak a8) hb) <| p_ (bZ (ak a6) hb) <| p_ (bZ (ak dY) hb) <| p_ (Kd.pJ Ie hb) <| a_ (dP au hb)
    clear hb xJ
    refine hK.out _ _ ⟨(aP a6.out 0).trans rfl,sG dY.out⟩ (fun hH=>?_)
    clear hK K
    refine eX (some 61) ?_
    refine yM (i:=5) (j:=7) (Ni:=some 66) (uJ:=some 68) Pv Lu rfl rfl rfl rfl (yN aO.out aB) (by decide) (by decide) (fun K hK=>?_) (fun K hK=>?_)
    ·skip
     refine Kd.Bc aU (w0:=w) w.heap.size (by rfl) (.tmp 61) (.tmp 65) 26 43 (.agg #[(.string ⟨#[]⟩),(.bool false),(.string ⟨#[]⟩)]) 40 rfl underlying26 pV rfl (by decide) (by omega) Cb dq b6 _ _ _ (fun ay=>some ay≠(.slice ac a5.length ae:Value).ownBlock∧ay≠fO) (fun _=>False) rfl rfl ?kG ?aR (fun _ _ h=>h) (fun _ h=>h.elim) ?kT ?lu ?kH ?aL ?_
     (case aR=>exact Ui)
     (case lu=>exact au)
     (case kT=>exact aao)
     (case kG=>exact (by (with_reducible repeat (first|apply Kd.dB|apply Kd.dD|apply Kd.aZ));exact Kd.bn af.out (fun _ hk=>⟨hk.1.2,hk.2⟩)))
     (case kH=>exact (cZ au))
     (case aL=>have:=ct.out;omega)
     intro zV fb ho hb hg hat
     rw [← iO.out] at ho
     have gy:=p_ (Kd.nY (ok:=(fun ay=>ay≠fO)) (aJ eY) hg hat) <| p_ (iy (g:=ai) (o:=.cells #[.slice (some aN) aI.length aQ] 28) (ak a7) hg (Kd.fV af.out a7.out (by decide))) <| p_ (iy (g:=aK) (o:=.cells #[.slice none 0 0] 28) (ak a8) hg (Kd.fV af.out a8.out (by decide))) <| p_ (iy (g:=ab) (o:=.cells #[.slice ac a5.length ae] 28) (ak a6) hg (Kd.fV af.out a6.out (by decide))) <| p_ (iy (g:=fO) (o:=.cells #[.string jB,.bool ((aC aI dH).f1),.string ((aC aI dH).f2)] 43) (ak dY) hg (Kd.rC af.out (fun _ hk=>hk.2))) <| p_ (hb) <| p_ ((show Kd.C aU fb ac b6.length b6 from by rw [bq.out];exact Kd.xu (m:=(a9:Int).toNat) ((Kd.dN (Kd.nY (ok:=(fun ay=>ay≠fO)) (aJ eY) hg hat)).2.2) OY.out)) <| a_ (ho)
     clear eY a7 a8 a6 dY HB wQ af
     obtain ⟨eY,a7,a8,a6,dY,HB,wQ,xC⟩:=gy
     clear ho hb hg hat
     refine hK.out _ _ ⟨(aP a6.out 0).trans rfl,sG dY.out⟩ (fun hH=>?_)
     clear hK K
     refine eX (some 66) ?_
     refine fD (i:=7) (N:=some 68) Ac rfl rfl (jq aO.out aB) (by decide) (fun K hK=>?_)
     refine Kd.x9 aU _ 43 ?hg (N:=68) ?hd (xs:=([(⟨jB,((aC aI dH).f1),((aC aI dH).f2)⟩:aF)]:List (aF))) (inner:=[.string jB,.bool ((aC aI dH).f1),.string ((aC aI dH).f2)]) (ok:=fun _=>True) (iJ:=fun _=>True) ?hr ?hp (fun _ hk=>hk) trivial (Below.refl _ _) (Nat.le_refl _) (by simp) ?_;(case hd=>rfl);(case hg=>rfl);(case hr=>first|(go_simp;done)|(go_simp;rfl));(case hp=>exact Ic)
     intro wM iu DL hb iV iW
     clear iV iW
     (first|rw [← bb.out] at DL|(simp only [Int.reduceToNat] at DL;rw [← bb.out] at DL))
     obtain ⟨eY,xC,qU,a7,a8,a6,dY,wQ,HB⟩:=p_ (Kd.jX (aJ eY) (Kd.jo DL) hb) <| p_ (Kd.jX (aJ xC) (Kd.jo DL) hb) <| p_ (Kd.dI (Kd.vS (Kd.jY (Kd.jY DL (Kd.jJ (aJ eY))) (Kd.jJ (aJ xC))) (g:=fO) (o:=.cells #[.string jB,.bool ((aC aI dH).f1),.string ((aC aI dH).f2)] 43) (ak dY)) (cZ au)) <| p_ (bZ (ak a7) hb) <| p_ (bZ (ak a8) hb) <| p_ (bZ (ak a6) hb) <| p_ (bZ (ak dY) hb) <| p_ (Kd.pJ Ie hb) <| a_ (dP au hb)
     clear hb DL
     refine hK.out _ _ ⟨(aP a6.out 0).trans rfl,sG dY.out⟩ (fun hH=>?_)
     clear hK K
     refine eX (some 68) ?_
     exact lW xk (uM (Cb,zV,wM) _ ⟨hH,(by (with_reducible repeat (first|apply Kd.dB|apply Kd.dD|apply Kd.aZ));exact Kd.bn xC.out (fun _ hk=>⟨hk.2,⟨hk.1.1,hk.1.2⟩⟩)),(by (with_reducible repeat (first|apply Kd.dB|apply Kd.dD|apply Kd.aZ));exact Kd.bn qU.out (fun _ hk=>⟨hk.1.2,⟨hk.1.1.2,hk.2⟩⟩)),aaB,(ak a7),(ak a8),(ak a6),(ak dY),au⟩)
    ·skip
     refine Kd.x9 aU _ 43 ?hg (N:=68) ?hd (xs:=([(⟨jB,((aC aI dH).f1),((aC aI dH).f2)⟩:aF)]:List (aF))) (inner:=[.string jB,.bool ((aC aI dH).f1),.string ((aC aI dH).f2)]) (ok:=fun _=>True) (iJ:=fun _=>True) ?hr ?hp (fun _ hk=>hk) trivial (Below.refl _ _) (Nat.le_refl _) (by simp) ?_;(case hd=>rfl);(case hg=>rfl);(case hr=>first|(go_simp;done)|(go_simp;rfl));(case hp=>exact Ic)
     intro wM fb wE hb iV iW
     clear iV iW
     (first|rw [← bb.out] at wE|(simp only [Int.reduceToNat] at wE;rw [← bb.out] at wE))
     obtain ⟨eY,af,qU,a7,a8,a6,dY,wQ,HB⟩:=p_ (Kd.jX (aJ eY) (Kd.jo wE) hb) <| p_ (Kd.jX (aJ af) (Kd.jo wE) hb) <| p_ (Kd.dI (Kd.vS (Kd.jY (Kd.jY wE (Kd.jJ (aJ eY))) (Kd.jJ (aJ af))) (g:=fO) (o:=.cells #[.string jB,.bool ((aC aI dH).f1),.string ((aC aI dH).f2)] 43) (ak dY)) (cZ au)) <| p_ (bZ (ak a7) hb) <| p_ (bZ (ak a8) hb) <| p_ (bZ (ak a6) hb) <| p_ (bZ (ak dY) hb) <| p_ (Kd.pJ Ie hb) <| a_ (dP au hb)
     clear hb wE
     refine hK.out _ _ ⟨(aP a6.out 0).trans rfl,sG dY.out⟩ (fun hH=>?_)
     clear hK K
     refine eX (some 68) ?_
     refine fD (i:=5) (N:=some 66) Ac rfl rfl (jq aO.out aB) (by decide) (fun K hK=>?_)
     refine Kd.Bc aU (w0:=w) w.heap.size (by rfl) (.tmp 61) (.tmp 65) 26 43 (.agg #[(.string ⟨#[]⟩),(.bool false),(.string ⟨#[]⟩)]) 40 rfl underlying26 pV rfl (by decide) (by omega) Cb dq b6 _ _ _ (fun ay=>some ay≠(.slice ac a5.length ae:Value).ownBlock∧some ay≠(wM:Value).ownBlock∧ay≠fO) (fun _=>False) rfl rfl ?kG ?aR (fun _ _ h=>h) (fun _ h=>h.elim) ?kT ?lu ?kH ?aL ?_
     (case aR=>exact Ui)
     (case lu=>exact au)
     (case kT=>exact NT)
     (case kG=>exact (by (with_reducible repeat (first|apply Kd.dB|apply Kd.dD|apply Kd.aZ));exact Kd.bn af.out (fun _ hk=>⟨hk.1.1.2,⟨hk.2,hk.1.2⟩⟩)))
     (case kH=>exact (cZ au))
     (case aL=>have:=ct.out;omega)
     intro zV fc ho hb hg hat
     rw [← iO.out] at ho
     have gy:=p_ (Kd.nY (ok:=(fun ay=>some ay≠(wM:Value).ownBlock∧ay≠fO)) N8 hg hat) <| p_ (iy (g:=ai) (o:=.cells #[.slice (some aN) aI.length aQ] 28) (ak a7) hg (Kd.fV af.out a7.out (by decide))) <| p_ (iy (g:=aK) (o:=.cells #[.slice none 0 0] 28) (ak a8) hg (Kd.fV af.out a8.out (by decide))) <| p_ (iy (g:=ab) (o:=.cells #[.slice ac a5.length ae] 28) (ak a6) hg (Kd.fV af.out a6.out (by decide))) <| p_ (iy (g:=fO) (o:=.cells #[.string jB,.bool ((aC aI dH).f1),.string ((aC aI dH).f2)] 43) (ak dY) hg (Kd.rC af.out (fun _ hk=>hk.1.2))) <| p_ (Kd.nY (ok:=(fun ay=>some ay≠(.slice ac a5.length ae:Value).ownBlock∧ay≠fO)) (by (with_reducible repeat (first|apply Kd.dB|apply Kd.dD|apply Kd.aZ));exact Kd.bn qU.out (fun _ hk=>⟨⟨hk.1.1.2,hk.2⟩,hk.1.2⟩)) hg hat) <| p_ (hb) <| p_ ((show Kd.C aU fc ac b6.length b6 from by rw [bq.out];exact Kd.xu (m:=(a9:Int).toNat) ((Kd.dN (Kd.nY (ok:=(fun ay=>some ay≠(wM:Value).ownBlock∧ay≠fO)) N8 hg hat)).2.2) OY.out)) <| a_ (ho)
     clear eY a7 a8 a6 dY qU HB wQ af
     obtain ⟨eY,a7,a8,a6,dY,qU,HB,wQ,xC⟩:=gy
     clear ho hb hg hat
     refine hK.out _ _ ⟨(aP a6.out 0).trans rfl,sG dY.out⟩ (fun hH=>?_)
     clear hK K
     refine eX (some 66) ?_
     exact lW xk (uM (Cb,zV,wM) _ ⟨hH,Ud,aaD,N_,(ak a7),(ak a8),(ak a6),(ak dY),au⟩)
   ·skip
    refine Kd.x9 aU _ 43 ?hg (N:=68) ?hd (xs:=([(⟨jB,((aC aI dH).f1),((aC aI dH).f2)⟩:aF)]:List (aF))) (inner:=[.string jB,.bool ((aC aI dH).f1),.string ((aC aI dH).f2)]) (ok:=fun _=>True) (iJ:=fun _=>True) ?hr ?hp (fun _ hk=>hk) trivial (Below.refl _ _) (Nat.le_refl _) (by simp) ?_;(case hd=>rfl);(case hg=>rfl);(case hr=>first|(go_simp;done)|(go_simp;rfl));(case hp=>exact Ic)
    intro wM ii xJ hb iV iW
    clear iV iW
    (first|rw [← bb.out] at xJ|(simp only [Int.reduceToNat] at xJ;rw [← bb.out] at xJ))
    obtain ⟨eY,qU,a7,a8,a6,dY,wQ,HB⟩:=p_ (Kd.jX (aJ eY) (Kd.jo xJ) hb) <| p_ (Kd.dI (Kd.vS (Kd.jY xJ (Kd.jJ (aJ eY))) (g:=fO) (o:=.cells #[.string jB,.bool ((aC aI dH).f1),.string ((aC aI dH).f2)] 43) (ak dY)) (cZ au)) <| p_ (bZ (ak a7) hb) <| p_ (bZ (ak a8) hb) <| p_ (bZ (ak a6) hb) <| p_ (bZ (ak dY) hb) <| p_ (Kd.pJ Ie hb) <| a_ (dP au hb)
    clear hb xJ
    refine hK.out _ _ ⟨(aP a6.out 0).trans rfl,sG dY.out⟩ (fun hH=>?_)
    clear hK K
    refine eX (some 68) ?_
    refine fD (i:=0) (N:=some 61) Lu rfl rfl (jq aO.out aB) (by decide) (fun K hK=>?_)
    refine Kd.x9 aU _ 43 ?hg (N:=61) ?hd (xs:=([]:List (aF))) (inner:=[]) (ok:=fun _=>True) (iJ:=fun _=>True) ?hr ?hp (fun _ hk=>hk) trivial (Below.refl _ _) (Nat.le_refl _) (by simp) ?_;(case hd=>rfl);(case hg=>rfl);(case hr=>first|(go_simp;done)|(go_simp;rfl));(case hp=>exact (bD.none _ _))
    intro Cb fb wE hb iV iW
    clear iV iW
    (first|rw [← bv.out] at wE|(simp only [Int.reduceToNat] at wE;rw [← bv.out] at wE))
    obtain ⟨eY,qU,af,a7,a8,a6,dY,wQ,HB⟩:=p_ (Kd.jX (aJ eY) (Kd.jo wE) hb) <| p_ (Kd.jX (aJ qU) (Kd.jo wE) hb) <| p_ (Kd.dI (Kd.vS (Kd.jY (Kd.jY wE (Kd.jJ (aJ eY))) (Kd.jJ (aJ qU))) (g:=fO) (o:=.cells #[.string jB,.bool ((aC aI dH).f1),.string ((aC aI dH).f2)] 43) (ak dY)) (cZ au)) <| p_ (bZ (ak a7) hb) <| p_ (bZ (ak a8) hb) <| p_ (bZ (ak a6) hb) <| p_ (bZ (ak dY) hb) <| p_ (Kd.pJ Ie hb) <| a_ (dP au hb)
    clear hb wE
    refine hK.out _ _ ⟨(aP a6.out 0).trans rfl,sG dY.out⟩ (fun hH=>?_)
    clear hK K
    refine eX (some 61) ?_
    refine fD (i:=5) (N:=some 66) Ac rfl rfl (jq aO.out aB) (by decide) (fun K hK=>?_)
    refine Kd.Bc aU (w0:=w) w.heap.size (by rfl) (.tmp 61) (.tmp 65) 26 43 (.agg #[(.string ⟨#[]⟩),(.bool false),(.string ⟨#[]⟩)]) 40 rfl underlying26 pV rfl (by decide) (by omega) Cb dq b6 _ _ _ (fun ay=>some ay≠(.slice ac a5.length ae:Value).ownBlock∧some ay≠(wM:Value).ownBlock∧ay≠fO) (fun _=>False) rfl rfl ?kG ?aR (fun _ _ h=>h) (fun _ h=>h.elim) ?kT ?lu ?kH ?aL ?_
    (case aR=>exact Ui)
    (case lu=>exact au)
    (case kT=>exact NT)
    (case kG=>exact (by (with_reducible repeat (first|apply Kd.dB|apply Kd.dD|apply Kd.aZ));exact Kd.bn af.out (fun _ hk=>⟨hk.1.1.2,⟨hk.1.2,hk.2⟩⟩)))
    (case kH=>exact (cZ au))
    (case aL=>have:=ct.out;omega)
    intro zV fc ho hb hg hat
    rw [← iO.out] at ho
    have gy:=p_ (Kd.nY (ok:=(fun ay=>some ay≠(wM:Value).ownBlock∧ay≠fO)) N9 hg hat) <| p_ (iy (g:=ai) (o:=.cells #[.slice (some aN) aI.length aQ] 28) (ak a7) hg (Kd.fV af.out a7.out (by decide))) <| p_ (iy (g:=aK) (o:=.cells #[.slice none 0 0] 28) (ak a8) hg (Kd.fV af.out a8.out (by decide))) <| p_ (iy (g:=ab) (o:=.cells #[.slice ac a5.length ae] 28) (ak a6) hg (Kd.fV af.out a6.out (by decide))) <| p_ (iy (g:=fO) (o:=.cells #[.string jB,.bool ((aC aI dH).f1),.string ((aC aI dH).f2)] 43) (ak dY) hg (Kd.rC af.out (fun _ hk=>hk.2))) <| p_ (Kd.nY (ok:=(fun ay=>some ay≠(.slice ac a5.length ae:Value).ownBlock∧ay≠fO)) (by (with_reducible repeat (first|apply Kd.dB|apply Kd.dD|apply Kd.aZ));exact Kd.bn qU.out (fun _ hk=>⟨⟨hk.1.1.2,hk.1.2⟩,hk.2⟩)) hg hat) <| p_ (hb) <| p_ ((show Kd.C aU fc ac b6.length b6 from by rw [bq.out];exact Kd.xu (m:=(a9:Int).toNat) ((Kd.dN (Kd.nY (ok:=(fun ay=>some ay≠(wM:Value).ownBlock∧ay≠fO)) N9 hg hat)).2.2) OY.out)) <| a_ (ho)
    clear eY a7 a8 a6 dY qU HB wQ af
    obtain ⟨eY,a7,a8,a6,dY,qU,HB,wQ,xC⟩:=gy
    clear ho hb hg hat
    refine hK.out _ _ ⟨(aP a6.out 0).trans rfl,sG dY.out⟩ (fun hH=>?_)
    clear hK K
    refine eX (some 66) ?_
    exact lW xk (uM (Cb,zV,wM) _ ⟨hH,Ud,aaD,N_,(ak a7),(ak a8),(ak a6),(ak dY),au⟩)
  rintro ⟨Cb,zV,wM⟩ cl ⟨oG,rG,rH,rJ,rM,rO,rP,rQ,rU⟩
  obtain ⟨xC,qU,eY,a7,a8,a6,dY,HB⟩:=bY (⟨rG⟩:aA (Kd.R aU 43 cl w.heap.size (fun ay=>some ay≠(wM:Value).ownBlock∧some ay≠(.slice ac a5.length ae:Value).ownBlock∧ay≠fO) zV dr)) <| bY (⟨rH⟩:aA (Kd.R aU 43 cl w.heap.size (fun ay=>some ay≠(zV:Value).ownBlock∧some ay≠(.slice ac a5.length ae:Value).ownBlock∧ay≠fO) wM dM)) <| bY (⟨rJ⟩:aA (Kd.R aU 43 cl w.heap.size (fun ay=>some ay≠(zV:Value).ownBlock∧some ay≠(wM:Value).ownBlock∧ay≠fO) (.slice ac a5.length ae) a5)) <| bY (⟨rM⟩:aA (cl.heap[ai]?=some (.cells #[.slice (some aN) aI.length aQ] 28))) <| bY (⟨rO⟩:aA (cl.heap[aK]?=some (.cells #[.slice none 0 0] 28))) <| bY (⟨rP⟩:aA (cl.heap[ab]?=some (.cells #[.slice ac a5.length ae] 28))) <| bY (⟨rQ⟩:aA (cl.heap[fO]?=some (.cells #[.string jB,.bool ((aC aI dH).f1),.string ((aC aI dH).f2)] 43))) <| (⟨rU⟩:aA (Below w.heap.size w cl))
  have hH:jQ cl ab (.slice ac a5.length ae) <| A8 cl fO (.string jB) (.bool ((aC aI dH).f1)) (.string ((aC aI dH).f2)):=oG
  obtain ⟨ch,ci,en⟩:=Kd.dK qU.out
  (first|subst en|(injection en with dV gU dW;have gV:=dV.symm;have gW:=dW.symm;clear dV gU dW;subst gV;subst gW))
  refine lW (a':=?_) ?_ ?_
  rotate_left
  ·simp only [uO,Act.put,List.setIfInBounds_toArray,List.set_cons_zero,List.set_cons_succ]
   rfl
  refine fD (i:=8) (N:=some 69) Px rfl rfl (jq aO.out aB) (by decide) (fun K hK=>?_)
  refine Kd.Bc aU (w0:=w) w.heap.size (by rfl) (.tmp 66) (.tmp 68) 26 43 (.agg #[(.string ⟨#[]⟩),(.bool false),(.string ⟨#[]⟩)]) 40 rfl underlying26 pV rfl (by decide) (by omega) zV dr dM _ _ _ (fun ay=>some ay≠(.slice ac a5.length ae:Value).ownBlock∧some ay≠(.slice ch dM.length ci:Value).ownBlock∧ay≠fO) (fun _=>False) rfl rfl ?kG ?aR (fun _ _ h=>h) (fun _ h=>h.elim) ?kT ?lu ?kH ?aL ?_
  (case aR=>repeat (first|exact (Kd.dN qU.out).2.2|(with_reducible refine Kd.jO ?_ _)|(with_reducible refine Kd.jT ?_ _)|(with_reducible refine Kd.jS ?_)))
  (case lu=>exact au)
  (case kT=>exact NT)
  (case kG=>exact Ud)
  (case kH=>exact (cZ au))
  (case aL=>have:=eh.out;omega)
  intro akV iv ho hb hg hat
  rw [← ej.out] at ho
  have gy:=p_ (Kd.nY (ok:=(fun ay=>some ay≠(.slice ch dM.length ci:Value).ownBlock∧ay≠fO)) aaA hg hat) <| p_ (iy (g:=ai) (o:=.cells #[.slice (some aN) aI.length aQ] 28) (ak a7) hg (Kd.fV xC.out a7.out (by decide))) <| p_ (iy (g:=aK) (o:=.cells #[.slice none 0 0] 28) (ak a8) hg (Kd.fV xC.out a8.out (by decide))) <| p_ (iy (g:=ab) (o:=.cells #[.slice ac a5.length ae] 28) (ak a6) hg (Kd.fV xC.out a6.out (by decide))) <| p_ (iy (g:=fO) (o:=.cells #[.string jB,.bool ((aC aI dH).f1),.string ((aC aI dH).f2)] 43) (ak dY) hg (Kd.rC xC.out (fun _ hk=>hk.2.2))) <| p_ (Kd.nY (ok:=(fun ay=>some ay≠(.slice ac a5.length ae:Value).ownBlock∧ay≠fO)) (by (with_reducible repeat (first|apply Kd.dB|apply Kd.dD|apply Kd.aZ));exact Kd.bn qU.out (fun _ hk=>⟨⟨hk.2.1,hk.2.2⟩,hk.1⟩)) hg hat) <| p_ (hb) <| a_ (ho)
  clear eY a7 a8 a6 dY qU HB xC
  obtain ⟨eY,a7,a8,a6,dY,qU,HB,bc⟩:=gy
  clear ho hb hg hat
  refine hK.out _ _ ⟨(aP a6.out 0).trans rfl,sG dY.out⟩ (fun hH=>?_)
  clear hK K
  refine eX (some 69) ?_
  refine cu 9 11 Py aO ?_
  refine iP (ku aO.out aB) ?_
  obtain ⟨aw,ax⟩:=gB aq ap
  have aBB:=dh a6.out
  have fd:(a9:Int)≤((a5.length:Int):Int):=bF bG
  obtain ⟨ayL,YQ,_,YZ,_⟩:=info_parts pV
  have Td:a5.length≤ae:=(Kd.dN eY.out).2.1
  have XC:Kd.C aU _ ac a5.length a5:=(Kd.dN eY.out).2.2
  have fe:(0:Int)≤(a9:Int):=bF bG
  have adn:=Xg (P:=Tryz.prog) 26 43 .i64 underlying26 YQ 3 YZ ac a5.length ae a9 fe fd
  have Jw:=Kd.Kw (m:=(a9:Int).toNat) (c:=ae) XC (by omega) Td
  obtain ⟨h8,LH⟩:∃ A1,A1=(if ae=(a9:Int).toNat then ac else (ac:Option Addr).map (·.add ((a9:Int).toNat * 3))):=⟨_,rfl⟩
  obtain ⟨ij,hc99⟩:∃ c1,c1=ae - (a9:Int).toNat:=⟨_,rfl⟩
  have d7:bh.length=a5.length - (a9:Int).toNat:=(by rw [cv.out,List.length_drop] <;> omega)
  rw [show (a5).drop (a9:Int).toNat=bh from cv.out.symm] at Jw
  replace Jw:Kd.C aU _ h8 bh.length bh:=(by rw [LH];exact Jw)
  rw [← d7,← LH,← hc99] at adn
  have bw:=m_ Jw
  have h9:=m_ (show bh.length≤ij from by rw [d7,hc99];exact Nat.sub_le_sub_right Td _)
  clear Jw XC Td YQ YZ hc99
  have alN:=m_ d7
  have abA:=m_ LH
  clear d7 LH
  have abD:=m_ (show (a9:Int).toNat≤a5.length from by omega)
  replace fd:=eq_true fd
  try go_wp2_with (first|((with_reducible refine xH (b:=.append) (xs:=#[.tmp 70,.tmp 74]) rfl ?_);at_builtin;refine Kd.EL aU (w0:=w) w.heap.size rfl (.tmp 70) (.tmp 74) 26 43 (.agg #[(.string ⟨#[]⟩),(.bool false),(.string ⟨#[]⟩)]) 40 rfl underlying26 pV rfl (by decide) (by omega) akV ei bh _ _ _ (fun ay=>some ay≠(.slice ac a5.length ae:Value).ownBlock∧some ay≠(.slice ch dM.length ci:Value).ownBlock∧ay≠fO) (fun _=>False) rfl rfl ?kG ?aR (fun _ _ h=>h) (fun _ h=>h.elim) ?kT ?lu ?kH ?aL ?_;(case aR=>repeat (first|exact (by repeat (first|(with_reducible exact bw.out)|(with_reducible refine Kd.jO ?_ _)|(with_reducible refine Kd.jT ?_ _)|(with_reducible refine Kd.jS ?_)|exact bw.out))|(with_reducible refine Kd.jO ?_ _)|(with_reducible refine Kd.jT ?_ _)|(with_reducible refine Kd.jS ?_)));(case lu=>exact au);(case kT=>exact NT);(case kG=>exact (aJ bc));(case kH=>exact (cZ au));(case aL=>have:=ek.out;omega);intro az2 ff ho hb hg hat;rw [← el.out] at ho;have gy:=p_ (Kd.nY (ok:=(fun ay=>some ay≠(.slice ch dM.length ci:Value).ownBlock∧ay≠fO)) (aJ eY) hg hat) <| p_ (iy (g:=ai) (o:=.cells #[.slice (some aN) aI.length aQ] 28) (ak a7) hg (Kd.fV bc.out a7.out (by decide))) <| p_ (iy (g:=aK) (o:=.cells #[.slice none 0 0] 28) (ak a8) hg (Kd.fV bc.out a8.out (by decide))) <| p_ (iy (g:=ab) (o:=.cells #[.slice ac a5.length ae] 28) (ak a6) hg (Kd.fV bc.out a6.out (by decide))) <| p_ (iy (g:=fO) (o:=.cells #[.string jB,.bool ((aC aI dH).f1),.string ((aC aI dH).f2)] 43) (ak dY) hg (Kd.rC bc.out (fun _ hk=>hk.2.2))) <| p_ (Kd.nY (ok:=(fun ay=>some ay≠(.slice ac a5.length ae:Value).ownBlock∧ay≠fO)) (aJ qU) hg hat) <| p_ (hb) <| p_ ((show Kd.C aU ff h8 bh.length bh from by rw [cv.out,abA.out];exact Kd.Kw (m:=(a9:Int).toNat) (c:=ae) ((Kd.dN (Kd.nY (ok:=(fun ay=>some ay≠(.slice ch dM.length ci:Value).ownBlock∧ay≠fO)) (aJ eY) hg hat)).2.2) abD.out ((Kd.dN (Kd.nY (ok:=(fun ay=>some ay≠(.slice ch dM.length ci:Value).ownBlock∧ay≠fO)) (aJ eY) hg hat)).2.1))) <| a_ (ho);clear eY a7 a8 a6 dY qU HB bw bc;obtain ⟨eY,a7,a8,a6,dY,qU,HB,bw,dl⟩:=gy;clear ho hb hg hat;obtain ⟨eo,ep,eq⟩:=Kd.dK dl.out;subst eq;have aAJ:=dh a6.out))
  go_roundg k4
  case measure=>have:=gZ.out;have:=EF.out;have:=KC.out;have:=KE.out;omega
  case rel=>exact ⟨(wrap64 (dH+1)),(dt),(.slice eo dt.length ep),bg,H',⟨Uo⟩,⟨(by (with_reducible repeat (first|apply Kd.dB|apply Kd.dD|apply Kd.aZ));exact Kd.bn (aH (Kd.bQ dl.out a6.out (by decide))) (fun _ hk=>trivial))⟩,⟨aT⟩,⟨aT⟩,⟨aT⟩,⟨au⟩⟩
 obtain ⟨hu,H⟩:=gK H
 have er:=m_ H
 clear H
 try go_wp2
 obtain ⟨eY,a7,a8,a6,dY,HB⟩:=p_ (Kd.aZ eY.out) <| wV a7 a8 a6 dY HB
 obtain ⟨jC,gG,es⟩:=Kd.dK eY.out
 (first|subst es|(injection es with dV gU dW;have gV:=dV.symm;have gW:=dW.symm;clear dV gU dW;subst gV;subst gW))
 have dv:0≤(a9:Int):=bF bG
 have jU:a9 < (a5.length:Int):=bF bG
 obtain ⟨aa,fg,bi,bj,bl⟩:=kY (Kd.dN eY.out).2.2 a9 dv jU
 cases fg
 replace dv:=eq_true dv
 replace jU:=eq_true jU
 refine iT (n:=16) (S:=fun w'=>jQ w' ab (.slice (some aa) a5.length gG) <| Kv w' fO (.string jB) (.bool ((aC aI dH).f1)) (.string ((aC aI dH).f2)) <| xX w' (aa.add ((a9).toNat * 3)) (.string ((aC a5 a9).f0)) (.bool ((aC a5 a9).f1)) (.string ((aC a5 a9).f2))) (ds:=[]) PS aB rfl rfl ⟨(aP a6.out 0).trans rfl,Ld dY.out ⟨bi,bj,bl⟩⟩ (fun hH=>?_);refine kE iZ.J7 iZ.IU (fun aO fJ=>?_)
 generalize wr.drew=ik at eY a7 a8 a6 dY HB bi bj bl hH ⊢
 refine cu 0 43 VI aO ?_
 refine cu 1 44 VJ aO ?_
 refine jZ 2 45 VK aO fJ hH ?_
 refine cu 3 46 VL aO ?_
 refine cu 4 47 VN aO ?_
 refine cu 5 48 VO aO ?_
 refine cu 6 49 PU aO ?_
 refine cu 8 51 #[aj,aj,aj,aj,aj,aj,aj,F_,aj,F_,F_,F_,F_,F_,F_,F_] aO ?_
 refine cu 12 55 #[aj,aj,aj,aj,aj,aj,aj,F_,aj,F_,F_,F_,aj,F_,F_,F_] aO ?_
 refine jZ 7 50 #[aj,aj,aj,aj,aj,aj,aj,aj,aj,F_,F_,F_,aj,F_,F_,F_] aO fJ hH ?_
 refine cu 9 52 #[aj,aj,aj,aj,aj,aj,aj,aj,aj,aj,F_,F_,aj,F_,F_,F_] aO ?_
 refine cu 10 53 #[aj,aj,aj,aj,aj,aj,aj,aj,aj,aj,aj,F_,aj,F_,F_,F_] aO ?_
 refine jZ 11 54 PV aO fJ hH ?_
 refine jZ 13 56 ES aO fJ hH ?_
 refine cu 14 57 PW aO ?_
 refine cu 15 58 PX aO ?_
 refine iP (ku aO.out aB) ?_
 go_upto_if 58 with (fail)
 (try clear bH am cp az cr al bp co cq bo)
 (try clear bi bj bl)
 obtain ⟨H⟩:=er
 revert H;refine fH (fun e6 H=>?_) fun e6 H=>?_
 rotate_left
 ·have b0:(Op.bytesLess jB.toList (((aC a5 a9).f0).toList))=false:=by simpa using e6
  clear e6
  (first|rw [b0]|(simp only [aY,bf];rw [b0])|rw [zH,b0]|rw [Bh,b0]|skip)
  have H':=m_ H
  clear H
  go_wp2
  go_roundg k4
  case measure=>have:=gZ.out;have:=EF.out;have:=KC.out;have:=KE.out;omega
  case rel=>exact ⟨(wrap64 (a9+1)),bg,H',⟨Uo⟩,⟨(aJ eY)⟩,⟨(ak a7)⟩,⟨(ak a8)⟩,⟨(ak a6)⟩,⟨(ak dY)⟩,⟨au⟩⟩
 have b0:(Op.bytesLess jB.toList (((aC a5 a9).f0).toList))=true:=e6
 clear e6
 (first|rw [b0]|(simp only [aY,bf];rw [b0])|rw [zH,b0]|rw [Bh,b0]|skip)
 obtain ⟨dx,bx,H⟩:=vH H
 have hy:=eq_true (bF bG:0≤a9)
 obtain ⟨i1,i2,H⟩:=jE H
 obtain ⟨b7,br,H⟩:=vH H
 obtain ⟨i3,H⟩:=kV H
 have cx:=m_ i3
 clear i3
 obtain ⟨dy,cy,H⟩:=vH H
 obtain ⟨bm,bd,H⟩:=vH H
 obtain ⟨i4,H⟩:=kV H
 have et:=m_ i4
 clear i4
 obtain ⟨tY,ev,H⟩:=vH H
 have i5:=eq_true (bF bG:0≤a9)
 have i6:=eq_true (bF bG:a9≤(a5.length:Int))
 obtain ⟨fB,cz,H⟩:=vH H
 obtain ⟨i7,H⟩:=kV H
 have ew:=m_ i7
 clear i7
 obtain ⟨dz,d0⟩:∃ y_:List (aF),y_=(tY++fB):=⟨_,rfl⟩
 rw [← d0] at H
 have ex:=m_ d0
 clear d0
 have H':=m_ H
 clear H
 try go_wp2
 obtain ⟨eY,a7,a8,a6,dY,HB⟩:=p_ (Kd.aZ eY.out) <| wV a7 a8 a6 dY HB
 have fi:(a9:Int)≤((a5.length:Int):Int):=bF bG
 obtain ⟨ayI,YN,_,aiQ,_⟩:=info_parts pV
 have YV:a5.length≤gG:=(Kd.dN eY.out).2.1
 have Xz:Kd.C aU _ (some aa) a5.length a5:=(Kd.dN eY.out).2.2
 have adi:=Dl (P:=Tryz.prog) 26 43 .i64 underlying26 YN (some aa) a5.length gG a9 (bF bG) fi YV
 have S9:=Kd.xu (m:=(a9:Int).toNat) Xz (by omega)
 have e0:b7.length=(a9:Int).toNat:=(by rw [br.out,List.length_take];omega)
 rw [← br.out] at S9
 rw [← e0] at adi
 have wP:=m_ S9
 have i8:=m_ (show b7.length≤gG from by omega)
 clear S9 Xz YV YN aiQ
 have alK:=m_ e0
 clear e0
 have OX:=m_ (show (a9:Int).toNat≤a5.length from by omega)
 replace fi:=eq_true fi
 refine iT (n:=10) (S:=fun w'=>jQ w' ab (.slice (some aa) a5.length gG) <| A8 w' fO (.string jB) (.bool ((aC aI dH).f1)) (.string ((aC aI dH).f2))) (ds:=[]) PY aB rfl rfl ⟨(aP a6.out 0).trans rfl,sG dY.out⟩ (fun hH=>?_);refine kE iZ.aac iZ.Vw (fun aO fJ=>?_)
 generalize ik.drew=AA at eY a7 a8 a6 dY HB wP hH ⊢
 refine cu 1 62 PZ aO ?_
 refine cu 3 64 Pq aO ?_
 refine jZ 2 63 VW aO fJ hH ?_
 refine cu 4 65 VX aO ?_
 refine jZ 6 67 VY aO fJ hH ?_
 refine yx (σ:=Value × Value × Value) 2 Ac (fun s_=>[(61,s_.1),(66,s_.2.1),(68,s_.2.2)]) (fun s_ w'=>(jQ w' ab (.slice (some aa) a5.length gG) <| A8 w' fO (.string jB) (.bool ((aC aI dH).f1)) (.string ((aC aI dH).f2)))∧(Kd.R aU 43 w' w.heap.size (fun ay=>some ay≠(s_.2.2:Value).ownBlock∧some ay≠(.slice (some aa) a5.length gG:Value).ownBlock∧ay≠fO) s_.2.1 dy)∧(Kd.R aU 43 w' w.heap.size (fun ay=>some ay≠(s_.2.1:Value).ownBlock∧some ay≠(.slice (some aa) a5.length gG:Value).ownBlock∧ay≠fO) s_.2.2 bm)∧(Kd.R aU 43 w' w.heap.size (fun ay=>some ay≠(s_.2.1:Value).ownBlock∧some ay≠(s_.2.2:Value).ownBlock∧ay≠fO) (.slice (some aa) a5.length gG) a5)∧(w'.heap[ai]?=some (.cells #[.slice (some aN) aI.length aQ] 28))∧(w'.heap[aK]?=some (.cells #[.slice none 0 0] 28))∧(w'.heap[ab]?=some (.cells #[.slice (some aa) a5.length gG] 28))∧(w'.heap[fO]?=some (.cells #[.string jB,.bool ((aC aI dH).f1),.string ((aC aI dH).f2)] 43))∧(Below w.heap.size w w')) ?_ ?_
 rotate_left
 ·intro uM
  refine yM (i:=0) (j:=7) (Ni:=some 61) (uJ:=some 68) VZ V3 rfl rfl rfl rfl (yN aO.out aB) (by decide) (by decide) (fun K hK=>?_) (fun K hK=>?_)
  ·skip
   refine Kd.x9 aU _ 43 ?hg (N:=61) ?hd (xs:=([]:List (aF))) (inner:=[]) (ok:=fun _=>True) (iJ:=fun _=>True) ?hr ?hp (fun _ hk=>hk) trivial (Below.refl _ _) (Nat.le_refl _) (by simp) ?_;(case hd=>rfl);(case hg=>rfl);(case hr=>first|(go_simp;done)|(go_simp;rfl));(case hp=>exact (bD.none _ _))
   intro B_ il xI hb iV iW
   clear iV iW
   (first|rw [← bx.out] at xI|(simp only [Int.reduceToNat] at xI;rw [← bx.out] at xI))
   obtain ⟨eY,ag,a7,a8,a6,dY,wP,HB⟩:=p_ (Kd.jX (aJ eY) (Kd.jo xI) hb) <| p_ (Kd.dI (Kd.vS (Kd.jY xI (Kd.jJ (aJ eY))) (g:=fO) (o:=.cells #[.string jB,.bool ((aC aI dH).f1),.string ((aC aI dH).f2)] 43) (ak dY)) (cZ au)) <| p_ (bZ (ak a7) hb) <| p_ (bZ (ak a8) hb) <| p_ (bZ (ak a6) hb) <| p_ (bZ (ak dY) hb) <| p_ (Kd.pJ Ig hb) <| a_ (dP au hb)
   clear hb xI
   refine hK.out _ _ ⟨(aP a6.out 0).trans rfl,sG dY.out⟩ (fun hH=>?_)
   clear hK K
   refine eX (some 61) ?_
   refine yM (i:=5) (j:=7) (Ni:=some 66) (uJ:=some 68) Pv Lu rfl rfl rfl rfl (yN aO.out aB) (by decide) (by decide) (fun K hK=>?_) (fun K hK=>?_)
   ·skip
    refine Kd.Bc aU (w0:=w) w.heap.size (by rfl) (.tmp 61) (.tmp 65) 26 43 (.agg #[(.string ⟨#[]⟩),(.bool false),(.string ⟨#[]⟩)]) 40 rfl underlying26 pV rfl (by decide) (by omega) B_ dx b7 _ _ _ (fun ay=>some ay≠(.slice (some aa) a5.length gG:Value).ownBlock∧ay≠fO) (fun _=>False) rfl rfl ?kG ?aR (fun _ _ h=>h) (fun _ h=>h.elim) ?kT ?lu ?kH ?aL ?_
    (case aR=>exact Uh)
    (case lu=>exact au)
    (case kT=>exact aao)
    (case kG=>exact (by (with_reducible repeat (first|apply Kd.dB|apply Kd.dD|apply Kd.aZ));exact Kd.bn ag.out (fun _ hk=>⟨hk.1.2,hk.2⟩)))
    (case kH=>exact (cZ au))
    (case aL=>have:=cx.out;omega)
    intro zU fj ho hb hg hat
    rw [← cy.out] at ho
    have gy:=p_ (Kd.nY (ok:=(fun ay=>ay≠fO)) (aJ eY) hg hat) <| p_ (iy (g:=ai) (o:=.cells #[.slice (some aN) aI.length aQ] 28) (ak a7) hg (Kd.fV ag.out a7.out (by decide))) <| p_ (iy (g:=aK) (o:=.cells #[.slice none 0 0] 28) (ak a8) hg (Kd.fV ag.out a8.out (by decide))) <| p_ (iy (g:=ab) (o:=.cells #[.slice (some aa) a5.length gG] 28) (ak a6) hg (Kd.fV ag.out a6.out (by decide))) <| p_ (iy (g:=fO) (o:=.cells #[.string jB,.bool ((aC aI dH).f1),.string ((aC aI dH).f2)] 43) (ak dY) hg (Kd.rC ag.out (fun _ hk=>hk.2))) <| p_ (hb) <| p_ ((show Kd.C aU fj (some aa) b7.length b7 from by rw [br.out];exact Kd.xu (m:=(a9:Int).toNat) ((Kd.dN (Kd.nY (ok:=(fun ay=>ay≠fO)) (aJ eY) hg hat)).2.2) OX.out)) <| a_ (ho)
    clear eY a7 a8 a6 dY HB wP ag
    obtain ⟨eY,a7,a8,a6,dY,HB,wP,xB⟩:=gy
    clear ho hb hg hat
    refine hK.out _ _ ⟨(aP a6.out 0).trans rfl,sG dY.out⟩ (fun hH=>?_)
    clear hK K
    refine eX (some 66) ?_
    refine fD (i:=7) (N:=some 68) Ac rfl rfl (jq aO.out aB) (by decide) (fun K hK=>?_)
    refine Kd.x9 aU _ 43 ?hg (N:=68) ?hd (xs:=([(⟨jB,((aC aI dH).f1),((aC aI dH).f2)⟩:aF)]:List (aF))) (inner:=[.string jB,.bool ((aC aI dH).f1),.string ((aC aI dH).f2)]) (ok:=fun _=>True) (iJ:=fun _=>True) ?hr ?hp (fun _ hk=>hk) trivial (Below.refl _ _) (Nat.le_refl _) (by simp) ?_;(case hd=>rfl);(case hg=>rfl);(case hr=>first|(go_simp;done)|(go_simp;rfl));(case hp=>exact Ic)
    intro wL ix DK hb iV iW
    clear iV iW
    (first|rw [← bd.out] at DK|(simp only [Int.reduceToNat] at DK;rw [← bd.out] at DK))
    obtain ⟨eY,xB,qR,a7,a8,a6,dY,wP,HB⟩:=p_ (Kd.jX (aJ eY) (Kd.jo DK) hb) <| p_ (Kd.jX (aJ xB) (Kd.jo DK) hb) <| p_ (Kd.dI (Kd.vS (Kd.jY (Kd.jY DK (Kd.jJ (aJ eY))) (Kd.jJ (aJ xB))) (g:=fO) (o:=.cells #[.string jB,.bool ((aC aI dH).f1),.string ((aC aI dH).f2)] 43) (ak dY)) (cZ au)) <| p_ (bZ (ak a7) hb) <| p_ (bZ (ak a8) hb) <| p_ (bZ (ak a6) hb) <| p_ (bZ (ak dY) hb) <| p_ (Kd.pJ Ig hb) <| a_ (dP au hb)
    clear hb DK
    refine hK.out _ _ ⟨(aP a6.out 0).trans rfl,sG dY.out⟩ (fun hH=>?_)
    clear hK K
    refine eX (some 68) ?_
    exact lW xk (uM (B_,zU,wL) _ ⟨hH,(by (with_reducible repeat (first|apply Kd.dB|apply Kd.dD|apply Kd.aZ));exact Kd.bn xB.out (fun _ hk=>⟨hk.2,⟨hk.1.1,hk.1.2⟩⟩)),(by (with_reducible repeat (first|apply Kd.dB|apply Kd.dD|apply Kd.aZ));exact Kd.bn qR.out (fun _ hk=>⟨hk.1.2,⟨hk.1.1.2,hk.2⟩⟩)),aaB,(ak a7),(ak a8),(ak a6),(ak dY),au⟩)
   ·skip
    refine Kd.x9 aU _ 43 ?hg (N:=68) ?hd (xs:=([(⟨jB,((aC aI dH).f1),((aC aI dH).f2)⟩:aF)]:List (aF))) (inner:=[.string jB,.bool ((aC aI dH).f1),.string ((aC aI dH).f2)]) (ok:=fun _=>True) (iJ:=fun _=>True) ?hr ?hp (fun _ hk=>hk) trivial (Below.refl _ _) (Nat.le_refl _) (by simp) ?_;(case hd=>rfl);(case hg=>rfl);(case hr=>first|(go_simp;done)|(go_simp;rfl));(case hp=>exact Ic)
    intro wL fj sH hb iV iW
    clear iV iW
    (first|rw [← bd.out] at sH|(simp only [Int.reduceToNat] at sH;rw [← bd.out] at sH))
    obtain ⟨eY,ag,qR,a7,a8,a6,dY,wP,HB⟩:=p_ (Kd.jX (aJ eY) (Kd.jo sH) hb) <| p_ (Kd.jX (aJ ag) (Kd.jo sH) hb) <| p_ (Kd.dI (Kd.vS (Kd.jY (Kd.jY sH (Kd.jJ (aJ eY))) (Kd.jJ (aJ ag))) (g:=fO) (o:=.cells #[.string jB,.bool ((aC aI dH).f1),.string ((aC aI dH).f2)] 43) (ak dY)) (cZ au)) <| p_ (bZ (ak a7) hb) <| p_ (bZ (ak a8) hb) <| p_ (bZ (ak a6) hb) <| p_ (bZ (ak dY) hb) <| p_ (Kd.pJ Ig hb) <| a_ (dP au hb)
    clear hb sH
    refine hK.out _ _ ⟨(aP a6.out 0).trans rfl,sG dY.out⟩ (fun hH=>?_)
    clear hK K
    refine eX (some 68) ?_
    refine fD (i:=5) (N:=some 66) Ac rfl rfl (jq aO.out aB) (by decide) (fun K hK=>?_)
    refine Kd.Bc aU (w0:=w) w.heap.size (by rfl) (.tmp 61) (.tmp 65) 26 43 (.agg #[(.string ⟨#[]⟩),(.bool false),(.string ⟨#[]⟩)]) 40 rfl underlying26 pV rfl (by decide) (by omega) B_ dx b7 _ _ _ (fun ay=>some ay≠(.slice (some aa) a5.length gG:Value).ownBlock∧some ay≠(wL:Value).ownBlock∧ay≠fO) (fun _=>False) rfl rfl ?kG ?aR (fun _ _ h=>h) (fun _ h=>h.elim) ?kT ?lu ?kH ?aL ?_
    (case aR=>exact Uh)
    (case lu=>exact au)
    (case kT=>exact NU)
    (case kG=>exact (by (with_reducible repeat (first|apply Kd.dB|apply Kd.dD|apply Kd.aZ));exact Kd.bn ag.out (fun _ hk=>⟨hk.1.1.2,⟨hk.2,hk.1.2⟩⟩)))
    (case kH=>exact (cZ au))
    (case aL=>have:=cx.out;omega)
    intro zU fk ho hb hg hat
    rw [← cy.out] at ho
    have gy:=p_ (Kd.nY (ok:=(fun ay=>some ay≠(wL:Value).ownBlock∧ay≠fO)) N8 hg hat) <| p_ (iy (g:=ai) (o:=.cells #[.slice (some aN) aI.length aQ] 28) (ak a7) hg (Kd.fV ag.out a7.out (by decide))) <| p_ (iy (g:=aK) (o:=.cells #[.slice none 0 0] 28) (ak a8) hg (Kd.fV ag.out a8.out (by decide))) <| p_ (iy (g:=ab) (o:=.cells #[.slice (some aa) a5.length gG] 28) (ak a6) hg (Kd.fV ag.out a6.out (by decide))) <| p_ (iy (g:=fO) (o:=.cells #[.string jB,.bool ((aC aI dH).f1),.string ((aC aI dH).f2)] 43) (ak dY) hg (Kd.rC ag.out (fun _ hk=>hk.1.2))) <| p_ (Kd.nY (ok:=(fun ay=>some ay≠(.slice (some aa) a5.length gG:Value).ownBlock∧ay≠fO)) (by (with_reducible repeat (first|apply Kd.dB|apply Kd.dD|apply Kd.aZ));exact Kd.bn qR.out (fun _ hk=>⟨⟨hk.1.1.2,hk.2⟩,hk.1.2⟩)) hg hat) <| p_ (hb) <| p_ ((show Kd.C aU fk (some aa) b7.length b7 from by rw [br.out];exact Kd.xu (m:=(a9:Int).toNat) ((Kd.dN (Kd.nY (ok:=(fun ay=>some ay≠(wL:Value).ownBlock∧ay≠fO)) N8 hg hat)).2.2) OX.out)) <| a_ (ho)
    clear eY a7 a8 a6 dY qR HB wP ag
    obtain ⟨eY,a7,a8,a6,dY,qR,HB,wP,xB⟩:=gy
    clear ho hb hg hat
    refine hK.out _ _ ⟨(aP a6.out 0).trans rfl,sG dY.out⟩ (fun hH=>?_)
    clear hK K
    refine eX (some 66) ?_
    exact lW xk (uM (B_,zU,wL) _ ⟨hH,Ue,aaE,N_,(ak a7),(ak a8),(ak a6),(ak dY),au⟩)
  ·skip
   refine Kd.x9 aU _ 43 ?hg (N:=68) ?hd (xs:=([(⟨jB,((aC aI dH).f1),((aC aI dH).f2)⟩:aF)]:List (aF))) (inner:=[.string jB,.bool ((aC aI dH).f1),.string ((aC aI dH).f2)]) (ok:=fun _=>True) (iJ:=fun _=>True) ?hr ?hp (fun _ hk=>hk) trivial (Below.refl _ _) (Nat.le_refl _) (by simp) ?_;(case hd=>rfl);(case hg=>rfl);(case hr=>first|(go_simp;done)|(go_simp;rfl));(case hp=>exact Ic)
   intro wL il xI hb iV iW
   clear iV iW
   (first|rw [← bd.out] at xI|(simp only [Int.reduceToNat] at xI;rw [← bd.out] at xI))
   obtain ⟨eY,qR,a7,a8,a6,dY,wP,HB⟩:=p_ (Kd.jX (aJ eY) (Kd.jo xI) hb) <| p_ (Kd.dI (Kd.vS (Kd.jY xI (Kd.jJ (aJ eY))) (g:=fO) (o:=.cells #[.string jB,.bool ((aC aI dH).f1),.string ((aC aI dH).f2)] 43) (ak dY)) (cZ au)) <| p_ (bZ (ak a7) hb) <| p_ (bZ (ak a8) hb) <| p_ (bZ (ak a6) hb) <| p_ (bZ (ak dY) hb) <| p_ (Kd.pJ Ig hb) <| a_ (dP au hb)
   clear hb xI
   refine hK.out _ _ ⟨(aP a6.out 0).trans rfl,sG dY.out⟩ (fun hH=>?_)
   clear hK K
   refine eX (some 68) ?_
   refine fD (i:=0) (N:=some 61) Lu rfl rfl (jq aO.out aB) (by decide) (fun K hK=>?_)
   refine Kd.x9 aU _ 43 ?hg (N:=61) ?hd (xs:=([]:List (aF))) (inner:=[]) (ok:=fun _=>True) (iJ:=fun _=>True) ?hr ?hp (fun _ hk=>hk) trivial (Below.refl _ _) (Nat.le_refl _) (by simp) ?_;(case hd=>rfl);(case hg=>rfl);(case hr=>first|(go_simp;done)|(go_simp;rfl));(case hp=>exact (bD.none _ _))
   intro B_ fj sH hb iV iW
   clear iV iW
   (first|rw [← bx.out] at sH|(simp only [Int.reduceToNat] at sH;rw [← bx.out] at sH))
   obtain ⟨eY,qR,ag,a7,a8,a6,dY,wP,HB⟩:=p_ (Kd.jX (aJ eY) (Kd.jo sH) hb) <| p_ (Kd.jX (aJ qR) (Kd.jo sH) hb) <| p_ (Kd.dI (Kd.vS (Kd.jY (Kd.jY sH (Kd.jJ (aJ eY))) (Kd.jJ (aJ qR))) (g:=fO) (o:=.cells #[.string jB,.bool ((aC aI dH).f1),.string ((aC aI dH).f2)] 43) (ak dY)) (cZ au)) <| p_ (bZ (ak a7) hb) <| p_ (bZ (ak a8) hb) <| p_ (bZ (ak a6) hb) <| p_ (bZ (ak dY) hb) <| p_ (Kd.pJ Ig hb) <| a_ (dP au hb)
   clear hb sH
   refine hK.out _ _ ⟨(aP a6.out 0).trans rfl,sG dY.out⟩ (fun hH=>?_)
   clear hK K
   refine eX (some 61) ?_
   refine fD (i:=5) (N:=some 66) Ac rfl rfl (jq aO.out aB) (by decide) (fun K hK=>?_)
   refine Kd.Bc aU (w0:=w) w.heap.size (by rfl) (.tmp 61) (.tmp 65) 26 43 (.agg #[(.string ⟨#[]⟩),(.bool false),(.string ⟨#[]⟩)]) 40 rfl underlying26 pV rfl (by decide) (by omega) B_ dx b7 _ _ _ (fun ay=>some ay≠(.slice (some aa) a5.length gG:Value).ownBlock∧some ay≠(wL:Value).ownBlock∧ay≠fO) (fun _=>False) rfl rfl ?kG ?aR (fun _ _ h=>h) (fun _ h=>h.elim) ?kT ?lu ?kH ?aL ?_
   (case aR=>exact Uh)
   (case lu=>exact au)
   (case kT=>exact NU)
   (case kG=>exact (by (with_reducible repeat (first|apply Kd.dB|apply Kd.dD|apply Kd.aZ));exact Kd.bn ag.out (fun _ hk=>⟨hk.1.1.2,⟨hk.1.2,hk.2⟩⟩)))
   (case kH=>exact (cZ au))
   (case aL=>have:=cx.out;omega)
   intro zU fk ho hb hg hat
   rw [← cy.out] at ho
   have gy:=p_ (Kd.nY (ok:=(fun ay=>some ay≠(wL:Value).ownBlock∧ay≠fO)) N9 hg hat) <| p_ (iy (g:=ai) (o:=.cells #[.slice (some aN) aI.length aQ] 28) (ak a7) hg (Kd.fV ag.out a7.out (by decide))) <| p_ (iy (g:=aK) (o:=.cells #[.slice none 0 0] 28) (ak a8) hg (Kd.fV ag.out a8.out (by decide))) <| p_ (iy (g:=ab) (o:=.cells #[.slice (some aa) a5.length gG] 28) (ak a6) hg (Kd.fV ag.out a6.out (by decide))) <| p_ (iy (g:=fO) (o:=.cells #[.string jB,.bool ((aC aI dH).f1),.string ((aC aI dH).f2)] 43) (ak dY) hg (Kd.rC ag.out (fun _ hk=>hk.2))) <| p_ (Kd.nY (ok:=(fun ay=>some ay≠(.slice (some aa) a5.length gG:Value).ownBlock∧ay≠fO)) (by (with_reducible repeat (first|apply Kd.dB|apply Kd.dD|apply Kd.aZ));exact Kd.bn qR.out (fun _ hk=>⟨⟨hk.1.1.2,hk.1.2⟩,hk.2⟩)) hg hat) <| p_ (hb) <| p_ ((show Kd.C aU fk (some aa) b7.length b7 from by rw [br.out];exact Kd.xu (m:=(a9:Int).toNat) ((Kd.dN (Kd.nY (ok:=(fun ay=>some ay≠(wL:Value).ownBlock∧ay≠fO)) N9 hg hat)).2.2) OX.out)) <| a_ (ho)
   clear eY a7 a8 a6 dY qR HB wP ag
   obtain ⟨eY,a7,a8,a6,dY,qR,HB,wP,xB⟩:=gy
   clear ho hb hg hat
   refine hK.out _ _ ⟨(aP a6.out 0).trans rfl,sG dY.out⟩ (fun hH=>?_)
   clear hK K
   refine eX (some 66) ?_
   exact lW xk (uM (B_,zU,wL) _ ⟨hH,Ue,aaE,N_,(ak a7),(ak a8),(ak a6),(ak dY),au⟩)
 rintro ⟨B_,zU,wL⟩ cm ⟨oG,rG,rH,rJ,rM,rO,rP,rQ,rU⟩
 obtain ⟨xB,qR,eY,a7,a8,a6,dY,HB⟩:=bY (⟨rG⟩:aA (Kd.R aU 43 cm w.heap.size (fun ay=>some ay≠(wL:Value).ownBlock∧some ay≠(.slice (some aa) a5.length gG:Value).ownBlock∧ay≠fO) zU dy)) <| bY (⟨rH⟩:aA (Kd.R aU 43 cm w.heap.size (fun ay=>some ay≠(zU:Value).ownBlock∧some ay≠(.slice (some aa) a5.length gG:Value).ownBlock∧ay≠fO) wL bm)) <| bY (⟨rJ⟩:aA (Kd.R aU 43 cm w.heap.size (fun ay=>some ay≠(zU:Value).ownBlock∧some ay≠(wL:Value).ownBlock∧ay≠fO) (.slice (some aa) a5.length gG) a5)) <| bY (⟨rM⟩:aA (cm.heap[ai]?=some (.cells #[.slice (some aN) aI.length aQ] 28))) <| bY (⟨rO⟩:aA (cm.heap[aK]?=some (.cells #[.slice none 0 0] 28))) <| bY (⟨rP⟩:aA (cm.heap[ab]?=some (.cells #[.slice (some aa) a5.length gG] 28))) <| bY (⟨rQ⟩:aA (cm.heap[fO]?=some (.cells #[.string jB,.bool ((aC aI dH).f1),.string ((aC aI dH).f2)] 43))) <| (⟨rU⟩:aA (Below w.heap.size w cm))
 have hH:jQ cm ab (.slice (some aa) a5.length gG) <| A8 cm fO (.string jB) (.bool ((aC aI dH).f1)) (.string ((aC aI dH).f2)):=oG
 obtain ⟨cj,ck,ey⟩:=Kd.dK qR.out
 (first|subst ey|(injection ey with dV gU dW;have gV:=dV.symm;have gW:=dW.symm;clear dV gU dW;subst gV;subst gW))
 refine lW (a':=?_) ?_ ?_
 rotate_left
 ·simp only [uO,Act.put,List.setIfInBounds_toArray,List.set_cons_zero,List.set_cons_succ]
  rfl
 refine fD (i:=8) (N:=some 69) Px rfl rfl (jq aO.out aB) (by decide) (fun K hK=>?_)
 refine Kd.Bc aU (w0:=w) w.heap.size (by rfl) (.tmp 66) (.tmp 68) 26 43 (.agg #[(.string ⟨#[]⟩),(.bool false),(.string ⟨#[]⟩)]) 40 rfl underlying26 pV rfl (by decide) (by omega) zU dy bm _ _ _ (fun ay=>some ay≠(.slice (some aa) a5.length gG:Value).ownBlock∧some ay≠(.slice cj bm.length ck:Value).ownBlock∧ay≠fO) (fun _=>False) rfl rfl ?kG ?aR (fun _ _ h=>h) (fun _ h=>h.elim) ?kT ?lu ?kH ?aL ?_
 (case aR=>repeat (first|exact (Kd.dN qR.out).2.2|(with_reducible refine Kd.jO ?_ _)|(with_reducible refine Kd.jT ?_ _)|(with_reducible refine Kd.jS ?_)))
 (case lu=>exact au)
 (case kT=>exact NU)
 (case kG=>exact Ue)
 (case kH=>exact (cZ au))
 (case aL=>have:=et.out;omega)
 intro akU BA ho hb hg hat
 rw [← ev.out] at ho
 have gy:=p_ (Kd.nY (ok:=(fun ay=>some ay≠(.slice cj bm.length ck:Value).ownBlock∧ay≠fO)) aaA hg hat) <| p_ (iy (g:=ai) (o:=.cells #[.slice (some aN) aI.length aQ] 28) (ak a7) hg (Kd.fV xB.out a7.out (by decide))) <| p_ (iy (g:=aK) (o:=.cells #[.slice none 0 0] 28) (ak a8) hg (Kd.fV xB.out a8.out (by decide))) <| p_ (iy (g:=ab) (o:=.cells #[.slice (some aa) a5.length gG] 28) (ak a6) hg (Kd.fV xB.out a6.out (by decide))) <| p_ (iy (g:=fO) (o:=.cells #[.string jB,.bool ((aC aI dH).f1),.string ((aC aI dH).f2)] 43) (ak dY) hg (Kd.rC xB.out (fun _ hk=>hk.2.2))) <| p_ (Kd.nY (ok:=(fun ay=>some ay≠(.slice (some aa) a5.length gG:Value).ownBlock∧ay≠fO)) (by (with_reducible repeat (first|apply Kd.dB|apply Kd.dD|apply Kd.aZ));exact Kd.bn qR.out (fun _ hk=>⟨⟨hk.2.1,hk.2.2⟩,hk.1⟩)) hg hat) <| p_ (hb) <| a_ (ho)
 clear eY a7 a8 a6 dY qR HB xB
 obtain ⟨eY,a7,a8,a6,dY,qR,HB,be⟩:=gy
 clear ho hb hg hat
 refine hK.out _ _ ⟨(aP a6.out 0).trans rfl,sG dY.out⟩ (fun hH=>?_)
 clear hK K
 refine eX (some 69) ?_
 refine cu 9 11 Py aO ?_
 refine iP (ku aO.out aB) ?_
 obtain ⟨al,am,aw,ax,bp,bo⟩:=kJ ao an aq ap b3 ba
 have alg:=dh a6.out
 have fl:(a9:Int)≤((a5.length:Int):Int):=bF bG
 obtain ⟨ayJ,YO,_,YX,_⟩:=info_parts pV
 have Tc:a5.length≤gG:=(Kd.dN eY.out).2.1
 have XA:Kd.C aU _ (some aa) a5.length a5:=(Kd.dN eY.out).2.2
 have fm:(0:Int)≤(a9:Int):=bF bG
 have adk:=Xg (P:=Tryz.prog) 26 43 .i64 underlying26 YO 3 YX (some aa) a5.length gG a9 fm fl
 have Jv:=Kd.Kw (m:=(a9:Int).toNat) (c:=gG) XA (by omega) Tc
 obtain ⟨i9,LG⟩:∃ A1,A1=(if gG=(a9:Int).toNat then (some aa) else ((some aa):Option Addr).map (·.add ((a9:Int).toNat * 3))):=⟨_,rfl⟩
 obtain ⟨im,Qo⟩:∃ c1,c1=gG - (a9:Int).toNat:=⟨_,rfl⟩
 have d8:fB.length=a5.length - (a9:Int).toNat:=(by rw [cz.out,List.length_drop] <;> omega)
 rw [show (a5).drop (a9:Int).toNat=fB from cz.out.symm] at Jv
 replace Jv:Kd.C aU _ i9 fB.length fB:=(by rw [LG];exact Jv)
 rw [← d8,← LG,← Qo] at adk
 have bz:=m_ Jv
 have ia:=m_ (show fB.length≤im from by rw [d8,Qo];exact Nat.sub_le_sub_right Tc _)
 clear Jv XA Tc YO YX Qo
 have alL:=m_ d8
 have abz:=m_ LG
 clear d8 LG
 have abC:=m_ (show (a9:Int).toNat≤a5.length from by omega)
 replace fl:=eq_true fl
 try go_wp2_with (first|((with_reducible refine xH (b:=.append) (xs:=#[.tmp 70,.tmp 74]) rfl ?_);at_builtin;refine Kd.EL aU (w0:=w) w.heap.size rfl (.tmp 70) (.tmp 74) 26 43 (.agg #[(.string ⟨#[]⟩),(.bool false),(.string ⟨#[]⟩)]) 40 rfl underlying26 pV rfl (by decide) (by omega) akU tY fB _ _ _ (fun ay=>some ay≠(.slice (some aa) a5.length gG:Value).ownBlock∧some ay≠(.slice cj bm.length ck:Value).ownBlock∧ay≠fO) (fun _=>False) rfl rfl ?kG ?aR (fun _ _ h=>h) (fun _ h=>h.elim) ?kT ?lu ?kH ?aL ?_;(case aR=>repeat (first|exact (by repeat (first|(with_reducible exact bz.out)|(with_reducible refine Kd.jO ?_ _)|(with_reducible refine Kd.jT ?_ _)|(with_reducible refine Kd.jS ?_)|exact bz.out))|(with_reducible refine Kd.jO ?_ _)|(with_reducible refine Kd.jT ?_ _)|(with_reducible refine Kd.jS ?_)));(case lu=>exact au);(case kT=>exact NU);(case kG=>exact (aJ be));(case kH=>exact (cZ au));(case aL=>have:=ew.out;omega);intro az1 io ho hb hg hat;rw [← ex.out] at ho;have gy:=p_ (Kd.nY (ok:=(fun ay=>some ay≠(.slice cj bm.length ck:Value).ownBlock∧ay≠fO)) (aJ eY) hg hat) <| p_ (iy (g:=ai) (o:=.cells #[.slice (some aN) aI.length aQ] 28) (ak a7) hg (Kd.fV be.out a7.out (by decide))) <| p_ (iy (g:=aK) (o:=.cells #[.slice none 0 0] 28) (ak a8) hg (Kd.fV be.out a8.out (by decide))) <| p_ (iy (g:=ab) (o:=.cells #[.slice (some aa) a5.length gG] 28) (ak a6) hg (Kd.fV be.out a6.out (by decide))) <| p_ (iy (g:=fO) (o:=.cells #[.string jB,.bool ((aC aI dH).f1),.string ((aC aI dH).f2)] 43) (ak dY) hg (Kd.rC be.out (fun _ hk=>hk.2.2))) <| p_ (Kd.nY (ok:=(fun ay=>some ay≠(.slice (some aa) a5.length gG:Value).ownBlock∧ay≠fO)) (aJ qR) hg hat) <| p_ (hb) <| p_ ((show Kd.C aU io i9 fB.length fB from by rw [cz.out,abz.out];exact Kd.Kw (m:=(a9:Int).toNat) (c:=gG) ((Kd.dN (Kd.nY (ok:=(fun ay=>some ay≠(.slice cj bm.length ck:Value).ownBlock∧ay≠fO)) (aJ eY) hg hat)).2.2) abC.out ((Kd.dN (Kd.nY (ok:=(fun ay=>some ay≠(.slice cj bm.length ck:Value).ownBlock∧ay≠fO)) (aJ eY) hg hat)).2.1))) <| a_ (ho);clear eY a7 a8 a6 dY qR HB bz be;obtain ⟨eY,a7,a8,a6,dY,qR,HB,bz,dm⟩:=gy;clear ho hb hg hat;obtain ⟨fo,fp,fq⟩:=Kd.dK dm.out;subst fq;have aBr:=dh a6.out))
 go_roundg k4
 case measure=>have:=gZ.out;have:=EF.out;have:=KC.out;have:=KE.out;omega
 case rel=>exact ⟨(wrap64 (dH+1)),(dz),(.slice fo dz.length fp),bg,H',⟨Uo⟩,⟨(by (with_reducible repeat (first|apply Kd.dB|apply Kd.dD|apply Kd.aZ));exact Kd.bn (aH (Kd.bQ dm.out a6.out (by decide))) (fun _ hk=>trivial))⟩,⟨aT⟩,⟨aT⟩,⟨aT⟩,⟨au⟩⟩

end Go.Proofs.YthejdhjpbpamoaaGreatDoor.jD
