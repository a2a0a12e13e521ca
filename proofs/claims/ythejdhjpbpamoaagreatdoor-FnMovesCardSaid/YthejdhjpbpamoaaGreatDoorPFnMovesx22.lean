/- Contracts of Go functions: each call returns what the Lean function beside it computes. Conditions: as each theorem states them. -/
import Derived.Test.YthejdhjpbpamoaaGreatDoorPkFnMoves
import Derived.Test.YthejdhjpbpamoaaGreatDoorPFnMovesx1
import Derived.Test.YthejdhjpbpamoaaGreatDoorPFnMovesx2
import Derived.Test.YthejdhjpbpamoaaGreatDoorPFnMovesx3
import Derived.Test.YthejdhjpbpamoaaGreatDoorPFnMovesx4
import Derived.Test.YthejdhjpbpamoaaGreatDoorPFnMovesx10
import Derived.Test.YthejdhjpbpamoaaGreatDoorPFnMovesx21
namespace Go.Proofs.YthejdhjpbpamoaaGreatDoor.jM
open Go.RowKit Go.Proofs.YthejdhjpbpamoaaGreatDoorW.iK Go.Proofs.YthejdhjpbpamoaaGreatDoorW.lX Go.Proofs.YthejdhjpbpamoaaGreatDoorW.oV Go.Proofs.Tryz
attribute [local go_sem] qI qM qL qP qK qO qJ qN   -- for this text's walks alone
set_option linter.unusedVariables false
set_option maxHeartbeats 8000000
set_option maxRecDepth 100000
set_option linter.unusedSimpArgs false

mutual
def iP.j0:Nat→Bool→Int→Int→Int→Int→List (aC)→Option (Bool)
 | 0,_,_,_,_,_,_=>none
 | k+1,aa,a5,a6,a7,a8,a9=>if aa=true then (some false) else (iP.l0 k 0 a5 a6 a7 a8 a9)
def iP.l0:Nat→Int→Int→Int→Int→Int→List (aC)→Option (Bool)
 | 0,_,_,_,_,_,_=>none
 | k+1,x5,a7,a8,a9,a6,a5=>if x5 < (a5.length:Int) then (if 0≤x5 then ((uK.f k ((au a5 x5).f0)).bind fun ab=>((nR.f k a5 ab).bind fun aa=>(if ab.toList=([]:List UInt8) then (iP.j2 k x5 true a7 a8 a9 a6 a5 ((au a5 x5).f0) ((au a5 x5).f1) ((au a5 x5).f2)) else (if ab.toList=([47]:List UInt8) then (if x5 > 0 then (if 0≤(wrap64 (x5 - 1)) then (if (wrap64 (x5 - 1)) < (a5.length:Int) then (iP.j2 k x5 (!(Op.bytesLess (((au a5 (wrap64 (x5 - 1))).f0).toList) (((au a5 x5).f0).toList))) a7 a8 a9 a6 a5 ((au a5 x5).f0) ((au a5 x5).f1) ((au a5 x5).f2)) else (none)) else (none)) else (iP.j2 k x5 false a7 a8 a9 a6 a5 ((au a5 x5).f0) ((au a5 x5).f1) ((au a5 x5).f2))) else (if aa < 0 then (iP.j2 k x5 true a7 a8 a9 a6 a5 ((au a5 x5).f0) ((au a5 x5).f1) ((au a5 x5).f2)) else (if 0≤aa then (if aa < (a5.length:Int) then (if ((au a5 aa).f1=true) then (if x5 > 0 then (if 0≤(wrap64 (x5 - 1)) then (if (wrap64 (x5 - 1)) < (a5.length:Int) then (iP.j2 k x5 (!(Op.bytesLess (((au a5 (wrap64 (x5 - 1))).f0).toList) (((au a5 x5).f0).toList))) a7 a8 a9 a6 a5 ((au a5 x5).f0) ((au a5 x5).f1) ((au a5 x5).f2)) else (none)) else (none)) else (iP.j2 k x5 false a7 a8 a9 a6 a5 ((au a5 x5).f0) ((au a5 x5).f1) ((au a5 x5).f2))) else (iP.j2 k x5 true a7 a8 a9 a6 a5 ((au a5 x5).f0) ((au a5 x5).f1) ((au a5 x5).f2))) else (none)) else (none))))))) else (none)) else ((rX.f k a5).bind fun ac=>(some (decide (ac≤a6))))
def iP.j2:Nat→Int→Bool→Int→Int→Int→Int→List (aC)→ByteArray→Bool→ByteArray→Option (Bool)
 | 0,_,_,_,_,_,_,_,_,_,_=>none
 | k+1,x5,af,a7,a8,a9,aa,a5,ab,ac,a6=>if af=true then (some false) else (if ac=true then (if a6.toList=([]:List UInt8) then ((nS.f k a5 ab).bind fun ae=>(if (ae.length:Int) > 6 then (some false) else (if (a6.size:Int) > 128 then (some false) else (iP.l0 k (wrap64 (x5+1)) a7 a8 a9 aa a5)))) else (some false)) else (if (a6.size:Int) > 128 then (some false) else (iP.l0 k (wrap64 (x5+1)) a7 a8 a9 aa a5)))
end
def iP.f (k:Nat) (a7:Int) (a8:Int) (a5:Int) (a9:Int) (a6:List (aC)):Option (Bool):=(Ar.f a7 a8 a5 a9).bind fun aa=>(if aa=true then (if (a6.length:Int) ≥ a5 then (iP.j0 k true a7 a8 a5 a9 a6) else ((nS.f k a6 (⟨#[47]⟩:ByteArray)).bind fun ab=>(iP.j0 k (decide ((ab.length:Int) > 6)) a7 a8 a5 a9 a6))) else (iP.j0 k true a7 a8 a5 a9 a6))
def iP.T9:Bool × List (List Nat × List Nat):=(true,[([],[]),([0],[0]),([1],[1]),([2],[2]),([3,2],[2,3]),([4,2,2],[2,4]),([5],[5]),([6,5],[5,6]),([7,5,5],[5,7]),([8],[8]),([9,8],[8,9]),([8],[8]),([10,11,8],[8,10,11]),([12,8],[8,12]),([13,8],[8,13]),([14,8],[8,14]),([8,15,5],[5,8,15]),([5,16,2],[2,5,16]),([2,17],[2,17]),([18,8],[18]),([19],[19]),([20,19],[19,20]),([21,19,19],[19,21]),([22],[22]),([23,22],[22,23]),([22],[22]),([25,22],[22,25]),([24,26,22],[22,24,26]),([27,22],[22,27]),([28,22],[22,28]),([22],[22]),([30,22],[22,30]),([29,31,22],[22,29,31]),([22,32,19],[19,22,32]),([19,33],[19,33])])
def iP.B9:List Nat:=[0,1,3,7,15,31,63,127,255,511,1023,511,4095,8191,16383,32767,65535,131071,262143,524287,1048575,2097151,4194303,8388607,16777215,8388607,41943039,134217727,268435455,536870911,8388607,1082130431,4294967295,8589934591,17179869183]
theorem iP.xw:kZ .any (opsOf Tryz.f12 9)=iP.T9:=by kernel_rfl
theorem iP.wM:sF iP.T9.2 iP.B9=true:=by kernel_rfl
theorem iP.calls (k:Nat) (aN:Int) (aT:Int) (ag:Int) (al:Int) (bm:Option Addr) (aq:Nat) (aK:List (aC)) (r:Bool) (w:World) (cj:Kd.C bF w bm aK.length aK) (ck:aK.length≤aq) (h:iP.f k aN aT ag al aK=some r) :
  Calls Tryz.prog 12 #[.agg #[ah aN,ah aT,ah ag,ah al],.agg #[.slice bm aK.length aq]] w fun e w'=>e=.returned (.bool r)∧Below w.heap.size w w':=by
 have w_:=underlying25
 have oq:=underlying28
 have rF:=underlying43
 have rC:=m_ cj
 have bc:=m_ ck
 clear cj ck
 have HB:=m_ (Below.refl w.heap.size w)
 unfold iP.f at h
 have H:=h
 clear h
 have dy:=m_ H
 clear H
 go_enter func12,ntmps12
 go_upto_region 1 with (first|((with_reducible refine dG 2 ?_);(try (refine oh (by rfl) ?_;dsimp only));refine dU 2 (cs:=#[ah aN,ah aT,ah ag,ah al]) 25 ?_;intro av hg w4 hbox hb;obtain ⟨HB,a6,e9,ea⟩:=kE ay hb hbox hg;clear hb hbox hg)|((with_reducible refine dG 3 ?_);(try (refine oh (by rfl) ?_;dsimp only));refine dU 3 (cs:=#[.slice bm aK.length aq]) 28 ?_;intro ar hg w5 hbox hb;obtain ⟨a6,HB,a5,eb,ec,ao,ap⟩:=qj (aj a6) ay hb hbox hg;clear hb hbox hg))
 (try simp only [Act.put,List.setIfInBounds_toArray,List.set_cons_zero,List.set_cons_succ])
 go_cut [25] (fun v25 wc=>∃ (kq:Nat) (bp:Bool),v25=.bool bp∧aA (iP.j0 kq bp aN aT ag al aK=some r)∧aA (kq≤k)∧aA (wc.heap[av]?=some (.cells #[ah aN,ah aT,ah ag,ah al] 25))∧aA (wc.heap[ar]?=some (.cells #[(.slice bm aK.length aq)] 28))∧aA (Below w.heap.size w wc))
 case first =>
  obtain ⟨H⟩:=dy
  obtain ⟨dz,A6,H⟩:=bd_ H
  by_cases c7:dz=true
  rotate_left
  ·replace c7:=Bool.eq_false_iff.mpr c7
   subst c7
   rw [if_neg iO] at H
   have H':=m_ H
   clear H
   obtain ⟨aP,ai⟩:=iJ ao ap
   have cd:=jQ a6.out
   go_wp2_with (first|((with_reducible refine bU 50 ?_);refine bV (some 10) rfl rfl func50 aB rfl #[.agg #[ah aN,ah aT,ah ag,ah al]] rfl aW ?_;(with_reducible refine (Ar.calls aN aT ag al false _ A6.out).mono ?_);rintro e fh ⟨rfl,hb⟩;refine ⟨_,rfl,?_⟩;obtain ⟨a6,a5,HB⟩:=uF (aj a6) (aj a5) ay hb;(try clear hb)))
   go_meet
   case rel=>exact ⟨_,(true),bg,H',⟨kH⟩,⟨(aj a6)⟩,⟨(aj a5)⟩,⟨ay⟩⟩
  subst c7
  rw [if_pos rfl] at H
  revert H;refine gI (fun fK H=>?_) fun fK H=>?_
  ·try simp only [bI,bY,fK]
   have H':=m_ H
   clear H
   obtain ⟨aP,ai⟩:=iJ ao ap
   have ce:=jQ a6.out
   go_wp2_with (first|((with_reducible refine bU 50 ?_);refine bV (some 10) rfl rfl func50 aB rfl #[.agg #[ah aN,ah aT,ah ag,ah al]] rfl aW ?_;(with_reducible refine (Ar.calls aN aT ag al true _ A6.out).mono ?_);rintro e fi ⟨rfl,hb⟩;refine ⟨_,rfl,?_⟩;obtain ⟨a6,a5,HB⟩:=uF (aj a6) (aj a5) ay hb;(try clear hb);have zF:=cu a5.out;have cf:=jQ a6.out))
   go_meet
   case rel=>exact ⟨_,(true),bg,H',⟨kH⟩,⟨(aj a6)⟩,⟨(aj a5)⟩,⟨ay⟩⟩
  try simp only [bI,bY,fK]
  obtain ⟨d6,ev,H⟩:=bd_ H
  have H':=m_ H
  clear H
  obtain ⟨aP,ai⟩:=iJ ao ap
  have cg:=jQ a6.out
  go_wp2_with (first|((with_reducible refine bU 50 ?_);refine bV (some 10) rfl rfl func50 aB rfl #[.agg #[ah aN,ah aT,ah ag,ah al]] rfl aW ?_;(with_reducible refine (Ar.calls aN aT ag al true _ A6.out).mono ?_);rintro e fj ⟨rfl,hb⟩;refine ⟨_,rfl,?_⟩;obtain ⟨a6,a5,HB⟩:=uF (aj a6) (aj a5) ay hb;(try clear hb);have FW:=cu a5.out;have ch:=jQ a6.out)|(go_at_call 20;(with_reducible refine (nS.calls k _ _ aK (⟨#[47]⟩:ByteArray) d6 _ l9 bc.out ev.out).mono ?_);rintro e fk ⟨ajN,rfl,ho0,hb⟩;obtain ⟨d7,a6,a5,HB⟩:=p_ (Kd.dK ho0 (dO ay)) <| uF (aj a6) (aj a5) ay hb;(try clear hb);(try clear ho0);obtain ⟨ew,ex,e0⟩:=Kd.dJ d7.out;subst e0))
  go_meet
  case rel=>exact ⟨_,(decide ((d6.length:Int) > 6)),bg,H',⟨kH⟩,⟨(aj a6)⟩,⟨(aj a5)⟩,⟨ay⟩⟩
 case rest =>
 clear dy
 obtain ⟨kq,bp,rfl,HA,HJ2,a6,a5,HB⟩:=hcut
 cases kq with
 | zero=>exact absurd HA.out (by simp [iP.j0])
 | succ Bl =>
 obtain ⟨H⟩:=HA
 simp only [iP.j0] at H
 by_cases d8:bp=true
 ·subst d8
  rw [if_pos rfl] at H
  obtain rfl:=cZ H
  go_wp2
  go_ret
  exact ⟨b_,ay⟩
 replace d8:=Bool.eq_false_iff.mpr d8
 subst d8
 rw [if_neg iO] at H
 have H':=m_ H
 clear H
 go_wp2
 go_loopg [5] Bl (fun kq v5 w'=>∃ (a8:Int),v5=ah a8∧aA (iP.l0 kq a8 aN aT ag al aK=some r)∧aA (kq≤Bl)∧aA (w'.heap[av]?=some (.cells #[ah aN,ah aT,ah ag,ah al] 25))∧aA (w'.heap[ar]?=some (.cells #[(.slice bm aK.length aq)] 28))∧aA (Below w.heap.size w w'))
 case atStart=>exact ⟨(0),bg,H',⟨Nat.le_refl _⟩,⟨(aj a6)⟩,⟨(aj a5)⟩,⟨ay⟩⟩
 case round =>
 clear H'
 try clear d8
 obtain ⟨a8,rfl,HA,jv,a6,a5,HB⟩:=hrel
 cases gk with
 | zero=>exact absurd HA.out (by simp [iP.l0])
 | succ k2 =>
 obtain ⟨H⟩:=HA
 simp only [iP.l0] at H
 have d9:=m_ H
 clear H
 obtain ⟨ai,aP⟩:=iJ ap ao
 have La:=cu a5.out
 go_upto_if 30 with (fail)
 (try clear aP ai)
 (try clear La)
 obtain ⟨H⟩:=d9
 revert H;refine gI (fun bd H=>?_) fun bd H=>?_
 rotate_left
 ·try simp only [bI,bY,bd]
  obtain ⟨e3,f5,H⟩:=bd_ H
  obtain rfl:=cZ H
  try go_wp2
  obtain ⟨a6,a5,HB⟩:=GL a6 a5 HB
  refine iH (n:=6) (S:=fun w'=>lD w' ar (.slice bm aK.length aq) <| FY w' av (ah aN) (ah aT) (ah ag) (ah al)) (ds:=[]) #[F_,F_,F_,F_,F_,F_] aB rfl rfl ⟨(aO a5.out 0).trans rfl,tY a6.out⟩ (fun hH=>?_)
  generalize wr.drew=fl at a6 a5 HB hH ⊢
  refine xZ (i:=2) (N:=some 102) #[F_,F_,ak,F_,F_,F_] aB ?_
  refine ng (i:=0) (N:=some 100) (v:=?_) (a':=?_) #[ak,F_,ak,F_,F_,F_] rfl rfl aB (fun _ _ _ h=>h) (Or.inl ⟨(by rfl),?_⟩) hH ?_ ?_
  rotate_left
  ·rintro w' ⟨s0,s1,s2,s3,s4⟩
   go_simp
   with_reducible rfl
  rotate_left
  ·simp only [Act.put,List.setIfInBounds_toArray,List.set_cons_zero,List.set_cons_succ,bI,bY]
   rfl
  refine ng (i:=3) (N:=some 103) (v:=?_) (a':=?_) #[ak,F_,ak,ak,F_,F_] rfl rfl aB (fun _ _ _ h=>h) (Or.inl ⟨(by rfl),?_⟩) hH ?_ ?_
  rotate_left
  ·rintro w' ⟨s0,s1,s2,s3,s4⟩
   go_simp
   with_reducible rfl
  rotate_left
  ·simp only [Act.put,List.setIfInBounds_toArray,List.set_cons_zero,List.set_cons_succ,bI,bY]
   rfl
  refine gB (i:=1) (N:=some 101) #[ak,ak,ak,ak,F_,F_] rfl rfl aB (by decide) (fun K hK=>?_)
  refine iR func52 aB rfl #[.agg #[.slice bm aK.length aq]] (by rfl) rfl rfl aW ?_
  with_reducible refine (rX.calls k2 _ _ aK e3 _ l9 bc.out f5.out).mono ?_
  rintro e fm ⟨rfl,hb⟩
  refine ⟨_,rfl,?_⟩
  obtain ⟨a6,a5,HB⟩:=uF (aj a6) (aj a5) ay hb
  (try clear hb)
  refine hK.out _ _ ⟨(aO a5.out 0).trans rfl,tY a6.out⟩ (fun hH=>?_)
  clear hK K
  refine fD (some 101) ?_
  refine xZ (i:=4) (N:=some 104) #[ak,ak,ak,ak,ak,F_] aB ?_
  refine xZ (i:=5) (N:=some 4) #[ak,ak,ak,ak,ak,ak] aB ?_
  refine iF aB ?_
  try go_wp2
  go_ret
  exact ⟨b_,ay⟩
 try simp only [bI,bY,bd]
 obtain ⟨ee,H⟩:=fU H
 obtain ⟨bo,f7,H⟩:=bd_ H
 obtain ⟨ae,fa,H⟩:=bd_ H
 have cm:=m_ H
 clear H
 have akB:=cu a5.out
 have cn:0≤(a8:Int):=bC bD
 have co:a8 < (aK.length:Int):=bC bD
 obtain ⟨a9,e4,az,b0,b1⟩:=jP rC.out a8 cn co
 cases e4
 replace az:=gu HB.out az
 replace b0:=gu HB.out b0
 replace b1:=gu HB.out b1
 replace cn:=eq_true cn
 replace co:=eq_true co
 go_upto_region 9 with (first|((with_reducible refine dG 6 ?_);(try (refine oh (by rfl) ?_;dsimp only));refine dU 6 (cs:=#[.string (⟨#[]⟩:ByteArray),.bool false,.string (⟨#[]⟩:ByteArray)]) 43 ?_;intro aw hg fo hbox hb;obtain ⟨a6,a5,HB,a7,ef,eh,b8,bw,b9,bx⟩:=wu (aj a6) (aj a5) ay hb hbox hg;clear hb hbox hg;obtain ⟨be,fF,dM,bh⟩:=jE bw b8 bx b9;have ci:=nP a7.out)|((with_reducible refine bU 51 ?_);refine bV (some 40) rfl rfl func51 aB rfl #[.string ((au aK a8).f0)] rfl aW ?_;(with_reducible refine (uK.calls k2 ((au aK a8).f0) bo _ f7.out).mono ?_);rintro e fp ⟨rfl,hb⟩;refine ⟨_,rfl,?_⟩;obtain ⟨a6,a5,a7,HB⟩:=p_ (bG (g:=av) (o:=.cells #[ah aN,ah aT,ah ag,ah al] 25) (lM a6.out b8.out) hb) <| p_ (bG (g:=ar) (o:=.cells #[.slice (some a9) aK.length aq] 28) (lM a5.out b9.out) hb) <| p_ (bG (g:=aw) (o:=.cells #[.string ((au aK a8).f0),.bool ((au aK a8).f1),.string ((au aK a8).f2)] 43) (wB a7.out) hb) <| a_ (dI ay hb);(try clear hb);have akE:=cu a5.out)|((with_reducible refine bU 13 ?_);refine bV (some 43) rfl rfl func13 aB rfl #[.agg #[.slice (some a9) aK.length aq],.string bo] rfl aW ?_;(with_reducible refine (nR.calls k2 _ _ aK bo ae _ l9 bc.out fa.out).mono ?_);rintro e cp ⟨rfl,hb⟩;refine ⟨_,rfl,?_⟩;obtain ⟨a6,a5,a7,HB⟩:=wO (aj a6) (aj a5) (aj a7) ay hb;(try clear hb)))
 (try simp only [Act.put,List.setIfInBounds_toArray,List.set_cons_zero,List.set_cons_succ])
 go_cut [78] (fun v78 wc=>∃ (kq:Nat) (ba:Bool),v78=.bool ba∧aA (iP.j2 kq a8 ba aN aT ag al aK ((au aK a8).f0) ((au aK a8).f1) ((au aK a8).f2)=some r)∧aA (kq≤k2)∧aA (wc.heap[av]?=some (.cells #[ah aN,ah aT,ah ag,ah al] 25))∧aA (wc.heap[ar]?=some (.cells #[(.slice (some a9) aK.length aq)] 28))∧aA (wc.heap[aw]?=some (.cells #[.string ((au aK a8).f0),.bool ((au aK a8).f1),.string ((au aK a8).f2)] 43))∧aA (Below w.heap.size w wc))
 case first =>
  obtain ⟨H⟩:=cm
  revert H;refine fJ (fun cq H=>?_) fun cq H=>?_
  ·have b7:=gZ cq
   have da:=g_ cq
   clear cq
   (first|rw [b7]|(simp only [bI,bY];rw [b7])|rw [show (bo.toList).isEmpty=true from by simpa using b7]|skip)
   have H':=m_ H
   clear H
   try go_wp2
   obtain ⟨a6,a5,a7,HB⟩:=wQ a6 a5 a7 HB
   refine iH (n:=35) (S:=fun w'=>True) (ds:=[]) CV aB rfl rfl trivial (fun hH=>?_);refine jC iP.xw iP.wM (fun aS gJ=>?_)
   generalize cp.drew=fq at a6 a5 a7 HB hH ⊢
   refine aI 0 ?_
   refine aI 1 ?_
   refine aI 2 ?_
   refine bf 3 ?_
   refine bf 4 ?_
   refine bf 5 ?_
   refine bf 6 ?_
   refine bf 7 ?_
   refine bf 8 ?_
   refine bf 9 ?_
   refine bf 10 ?_
   refine bf 11 ?_
   refine bf 12 ?_
   refine bf 13 ?_
   refine bf 14 ?_
   refine bf 15 ?_
   refine bf 16 ?_
   refine bf 17 ?_
   refine aI 18 ?_
   refine aI 19 ?_
   refine bf 20 ?_
   refine bf 21 ?_
   refine bf 22 ?_
   refine bf 23 ?_
   refine bf 24 ?_
   refine bf 25 ?_
   refine bf 26 ?_
   refine bf 27 ?_
   refine bf 28 ?_
   refine bf 29 ?_
   refine bf 30 ?_
   refine bf 31 ?_
   refine bf 32 ?_
   refine bf 33 ?_
   refine aI 34 ?_
   refine iF (jB aS.out aB) ?_
   try go_wp2
   go_meet
   case rel=>exact ⟨_,(true),bg,H',⟨xY⟩,⟨(aj a6)⟩,⟨(aj a5)⟩,⟨(aj a7)⟩,⟨ay⟩⟩
  have b7:=gU cq
  have da:=gV cq
  (first|rw [b7]|(simp only [bI,bY];rw [b7])|rw [show (bo.toList).isEmpty=false from by simpa using b7]|skip)
  revert H;refine fJ (fun cr H=>?_) fun cr H=>?_
  ·have db:=gZ cr
   have dd:=g_ cr
   clear cr
   revert H;refine gI (fun de H=>?_) fun de H=>?_
   rotate_left
   ·have H':=m_ H
    clear H
    try go_wp2
    obtain ⟨a6,a5,a7,HB⟩:=wQ a6 a5 a7 HB
    refine iH (n:=35) (S:=fun w'=>True) (ds:=[]) CV aB rfl rfl trivial (fun hH=>?_);refine jC iP.xw iP.wM (fun aS gJ=>?_)
    generalize cp.drew=fs at a6 a5 a7 HB hH ⊢
    refine aI 0 ?_
    refine aI 1 ?_
    refine aI 2 ?_
    refine aI 3 ?_
    refine aI 4 ?_
    refine aI 5 ?_
    refine bf 6 ?_
    refine bf 7 ?_
    refine bf 8 ?_
    refine bf 9 ?_
    refine bf 10 ?_
    refine bf 11 ?_
    refine bf 12 ?_
    refine bf 13 ?_
    refine bf 14 ?_
    refine bf 15 ?_
    refine bf 16 ?_
    refine aI 17 ?_
    refine aI 18 ?_
    refine aI 19 ?_
    refine aI 20 ?_
    refine aI 21 ?_
    refine aI 22 ?_
    refine bf 23 ?_
    refine bf 24 ?_
    refine bf 25 ?_
    refine bf 26 ?_
    refine bf 27 ?_
    refine bf 28 ?_
    refine bf 29 ?_
    refine bf 30 ?_
    refine bf 31 ?_
    refine bf 32 ?_
    refine aI 33 ?_
    refine aI 34 ?_
    refine iF (jB aS.out aB) ?_
    try go_wp2
    go_meet
    case rel=>exact ⟨_,(false),bg,H',⟨xY⟩,⟨(aj a6)⟩,⟨(aj a5)⟩,⟨(aj a7)⟩,⟨ay⟩⟩
   obtain ⟨xO,JI⟩:∃ mQ:Int,(wrap64 (a8 - 1))=mQ:=⟨_,rfl⟩
   replace H:(if 0≤(xO) then (if (xO) < (aK.length:Int) then (iP.j2 k2 a8 (!(Op.bytesLess (((au aK (xO)).f0).toList) (((au aK a8).f0).toList))) aN aT ag al aK ((au aK a8).f0) ((au aK a8).f1) ((au aK a8).f2)) else (none)) else (none))=some r:=by first|(rw [JI] at H;exact H)|(simp only [JI] at H ⊢;exact H)
   have agd:(IntKind.i64.wrap (a8 - 1))=xO:=(bI _).trans JI
   obtain ⟨ej,H⟩:=fU H
   obtain ⟨el,H⟩:=fU H
   have H':=m_ H
   clear H
   try go_wp2
   obtain ⟨a6,a5,a7,HB⟩:=wQ a6 a5 a7 HB
   have ct:0≤((xO):Int):=bC bD
   have jg:(xO) < (aK.length:Int):=bC bD
   obtain ⟨df,e5,b2,b3,b4⟩:=jP rC.out (xO) ct jg
   have bq:=b4
   have br:=b3
   have bs:=b2
   obtain rfl:a9=df:=(by injection e5)
   replace b2:=gu HB.out b2
   replace b3:=gu HB.out b3
   replace b4:=gu HB.out b4
   replace ct:=eq_true ct
   replace jg:=eq_true jg
   refine iH (n:=35) (S:=fun w'=>lD w' ar (.slice (some a9) aK.length aq) <| zG w' aw (.string ((au aK a8).f0)) (.bool ((au aK a8).f1)) (.string ((au aK a8).f2)) <| uw w' (a9.add (((xO)).toNat * 3)) (.string ((au aK (xO)).f0)) (.bool ((au aK (xO)).f1)) (.string ((au aK (xO)).f2))) (ds:=[]) CV aB rfl rfl ⟨(aO a5.out 0).trans rfl,vC a7.out ⟨((HB.out.cell (World.block_lt_of_cell? w _ bs)).trans bs),((HB.out.cell (World.block_lt_of_cell? w _ br)).trans br),((HB.out.cell (World.block_lt_of_cell? w _ bq)).trans bq)⟩⟩ (fun hH=>?_);refine jC iP.xw iP.wM (fun aS gJ=>?_)
   generalize cp.drew=ft at a6 a5 a7 HB b2 b3 b4 hH ⊢
   refine aI 0 ?_
   refine aI 1 ?_
   refine aI 2 ?_
   refine aI 3 ?_
   refine aI 4 ?_
   refine aI 5 ?_
   refine bf 6 ?_
   refine bf 7 ?_
   refine bf 8 ?_
   refine bf 9 ?_
   refine bf 10 ?_
   refine bf 11 ?_
   refine bf 12 ?_
   refine bf 13 ?_
   refine bf 14 ?_
   refine bf 15 ?_
   refine bf 16 ?_
   refine aI 17 ?_
   refine aI 18 ?_
   refine aI 19 ?_
   refine aI 20 ?_
   refine aI 21 ?_
   refine aI 22 ?_
   refine aI 23 ?_
   refine aI 25 ?_
   refine aI 26 ?_
   refine aI 30 ?_
   refine fV 24 hH ?_
   refine aI 27 ?_
   refine aI 28 ?_
   refine fV 29 hH ?_
   refine fV 31 hH ?_
   refine aI 32 ?_
   refine aI 33 ?_
   refine aI 34 ?_
   refine iF (jB aS.out aB) ?_
   try go_wp2
   go_meet
   case rel=>exact ⟨_,(!(Op.bytesLess (((au aK (xO)).f0).toList) (((au aK a8).f0).toList))),(by first|rfl|(simp;done)|exact congrArg Value.bool (uz _ _)|exact congrArg Value.bool (wo _ _)|(simp only [Value.bool.injEq];first|exact uz _ _|exact wo ..)|(simp only [← JI] <;> (first|rfl|simp))|(simp [*];done)),H',⟨xY⟩,⟨(aj a6)⟩,⟨(aj a5)⟩,⟨(aj a7)⟩,⟨ay⟩⟩
  have db:=gU cr
  have dd:=gV cr
  revert H;refine gI (fun dg H=>?_) fun dg H=>?_
  ·have H':=m_ H
   clear H
   try go_wp2
   obtain ⟨a6,a5,a7,HB⟩:=wQ a6 a5 a7 HB
   refine iH (n:=35) (S:=fun w'=>True) (ds:=[]) CV aB rfl rfl trivial (fun hH=>?_);refine jC iP.xw iP.wM (fun aS gJ=>?_)
   generalize cp.drew=fu at a6 a5 a7 HB hH ⊢
   refine aI 0 ?_
   refine aI 1 ?_
   refine aI 2 ?_
   refine aI 3 ?_
   refine aI 4 ?_
   refine aI 5 ?_
   refine aI 6 ?_
   refine aI 7 ?_
   refine aI 8 ?_
   refine bf 9 ?_
   refine bf 10 ?_
   refine bf 11 ?_
   refine bf 12 ?_
   refine bf 13 ?_
   refine bf 14 ?_
   refine bf 15 ?_
   refine aI 16 ?_
   refine aI 17 ?_
   refine aI 18 ?_
   refine aI 19 ?_
   refine bf 20 ?_
   refine bf 21 ?_
   refine bf 22 ?_
   refine bf 23 ?_
   refine bf 24 ?_
   refine bf 25 ?_
   refine bf 26 ?_
   refine bf 27 ?_
   refine bf 28 ?_
   refine bf 29 ?_
   refine bf 30 ?_
   refine bf 31 ?_
   refine bf 32 ?_
   refine bf 33 ?_
   refine aI 34 ?_
   refine iF (jB aS.out aB) ?_
   try go_wp2
   go_meet
   case rel=>exact ⟨_,(true),bg,H',⟨xY⟩,⟨(aj a6)⟩,⟨(aj a5)⟩,⟨(aj a7)⟩,⟨ay⟩⟩
  obtain ⟨en,H⟩:=fU H
  obtain ⟨ep,H⟩:=fU H
  obtain ⟨Ro,NZ⟩:∃ Gl:Bool,Gl=((au aK ae).f1):=⟨_,rfl⟩
  replace H:(if (Ro=true) then (if a8 > 0 then (if 0≤(wrap64 (a8 - 1)) then (if (wrap64 (a8 - 1)) < (aK.length:Int) then (iP.j2 k2 a8 (!(Op.bytesLess (((au aK (wrap64 (a8 - 1))).f0).toList) (((au aK a8).f0).toList))) aN aT ag al aK ((au aK a8).f0) ((au aK a8).f1) ((au aK a8).f2)) else (none)) else (none)) else (iP.j2 k2 a8 false aN aT ag al aK ((au aK a8).f0) ((au aK a8).f1) ((au aK a8).f2))) else (iP.j2 k2 a8 true aN aT ag al aK ((au aK a8).f0) ((au aK a8).f1) ((au aK a8).f2)))=some r:=by rw [← NZ] at H;exact H
  have AY:=m_ NZ
  clear NZ
  by_cases lg:(Ro=true)
  rotate_left
  ·replace lg:=Bool.eq_false_iff.mpr lg
   subst lg
   rw [if_neg iO] at H
   have H':=m_ H
   clear H
   try go_wp2
   obtain ⟨a6,a5,a7,HB⟩:=wQ a6 a5 a7 HB
   have ax:0≤(ae:Int):=bC bD
   have dw:ae < (aK.length:Int):=bC bD
   obtain ⟨bi,bz,ab,aa,ac⟩:=jP rC.out ae ax dw
   have am:=ac
   have af:=aa
   have an:=ab
   (try rw [← AY.out] at aa)
   (try rw [← AY.out] at af)
   obtain rfl:a9=bi:=(by injection bz)
   replace ab:=gu HB.out ab
   replace aa:=gu HB.out aa
   replace ac:=gu HB.out ac
   replace ax:=eq_true ax
   replace dw:=eq_true dw
   refine iH (n:=35) (S:=fun w'=>lD w' ar (.slice (some a9) aK.length aq) <| uw w' (a9.add ((ae).toNat * 3)) (.string ((au aK ae).f0)) (.bool false) (.string ((au aK ae).f2))) (ds:=[]) CV aB rfl rfl ⟨(aO a5.out 0).trans rfl,((HB.out.cell (World.block_lt_of_cell? w _ an)).trans an),((HB.out.cell (World.block_lt_of_cell? w _ af)).trans af),((HB.out.cell (World.block_lt_of_cell? w _ am)).trans am)⟩ (fun hH=>?_);refine jC iP.xw iP.wM (fun aS gJ=>?_)
   generalize cp.drew=fw at a6 a5 a7 HB ab aa ac hH ⊢
   refine aI 0 ?_
   refine aI 1 ?_
   refine aI 2 ?_
   refine aI 3 ?_
   refine aI 4 ?_
   refine aI 5 ?_
   refine aI 6 ?_
   refine aI 7 ?_
   refine aI 8 ?_
   refine aI 9 ?_
   refine aI 11 ?_
   refine fV 10 hH ?_
   refine aI 12 ?_
   refine aI 13 ?_
   refine fV 14 hH ?_
   refine aI 15 ?_
   refine aI 16 ?_
   refine aI 17 ?_
   refine aI 18 ?_
   refine aI 19 ?_
   refine bf 20 ?_
   refine bf 21 ?_
   refine bf 22 ?_
   refine bf 23 ?_
   refine bf 24 ?_
   refine bf 25 ?_
   refine bf 26 ?_
   refine bf 27 ?_
   refine bf 28 ?_
   refine bf 29 ?_
   refine bf 30 ?_
   refine bf 31 ?_
   refine bf 32 ?_
   refine bf 33 ?_
   refine aI 34 ?_
   refine iF (jB aS.out aB) ?_
   try go_wp2
   go_meet
   case rel=>exact ⟨_,(true),bg,H',⟨xY⟩,⟨(aj a6)⟩,⟨(aj a5)⟩,⟨(aj a7)⟩,⟨ay⟩⟩
  subst lg
  rw [if_pos rfl] at H
  revert H;refine gI (fun cl H=>?_) fun cl H=>?_
  rotate_left
  ·have H':=m_ H
   clear H
   try go_wp2
   obtain ⟨a6,a5,a7,HB⟩:=wQ a6 a5 a7 HB
   have ax:0≤(ae:Int):=bC bD
   have dw:ae < (aK.length:Int):=bC bD
   obtain ⟨bi,bz,ab,aa,ac⟩:=jP rC.out ae ax dw
   have am:=ac
   have af:=aa
   have an:=ab
   (try rw [← AY.out] at aa)
   (try rw [← AY.out] at af)
   obtain rfl:a9=bi:=(by injection bz)
   replace ab:=gu HB.out ab
   replace aa:=gu HB.out aa
   replace ac:=gu HB.out ac
   replace ax:=eq_true ax
   replace dw:=eq_true dw
   refine iH (n:=35) (S:=fun w'=>lD w' ar (.slice (some a9) aK.length aq) <| uw w' (a9.add ((ae).toNat * 3)) (.string ((au aK ae).f0)) (.bool true) (.string ((au aK ae).f2))) (ds:=[]) CV aB rfl rfl ⟨(aO a5.out 0).trans rfl,((HB.out.cell (World.block_lt_of_cell? w _ an)).trans an),((HB.out.cell (World.block_lt_of_cell? w _ af)).trans af),((HB.out.cell (World.block_lt_of_cell? w _ am)).trans am)⟩ (fun hH=>?_);refine jC iP.xw iP.wM (fun aS gJ=>?_)
   generalize cp.drew=fx at a6 a5 a7 HB ab aa ac hH ⊢
   refine aI 0 ?_
   refine aI 1 ?_
   refine aI 2 ?_
   refine aI 3 ?_
   refine aI 4 ?_
   refine aI 5 ?_
   refine aI 6 ?_
   refine aI 7 ?_
   refine aI 8 ?_
   refine aI 9 ?_
   refine aI 11 ?_
   refine fV 10 hH ?_
   refine aI 12 ?_
   refine aI 13 ?_
   refine fV 14 hH ?_
   refine aI 15 ?_
   refine aI 16 ?_
   refine aI 17 ?_
   refine aI 18 ?_
   refine aI 19 ?_
   refine aI 20 ?_
   refine aI 21 ?_
   refine aI 22 ?_
   refine bf 23 ?_
   refine bf 24 ?_
   refine bf 25 ?_
   refine bf 26 ?_
   refine bf 27 ?_
   refine bf 28 ?_
   refine bf 29 ?_
   refine bf 30 ?_
   refine bf 31 ?_
   refine bf 32 ?_
   refine aI 33 ?_
   refine aI 34 ?_
   refine iF (jB aS.out aB) ?_
   try go_wp2
   go_meet
   case rel=>exact ⟨_,(false),bg,H',⟨xY⟩,⟨(aj a6)⟩,⟨(aj a5)⟩,⟨(aj a7)⟩,⟨ay⟩⟩
  obtain ⟨mG,zi⟩:∃ mQ:Int,(wrap64 (a8 - 1))=mQ:=⟨_,rfl⟩
  replace H:(if 0≤(mG) then (if (mG) < (aK.length:Int) then (iP.j2 k2 a8 (!(Op.bytesLess (((au aK (mG)).f0).toList) (((au aK a8).f0).toList))) aN aT ag al aK ((au aK a8).f0) ((au aK a8).f1) ((au aK a8).f2)) else (none)) else (none))=some r:=by first|(rw [zi] at H;exact H)|(simp only [zi] at H ⊢;exact H)
  have aae:(IntKind.i64.wrap (a8 - 1))=mG:=(bI _).trans zi
  obtain ⟨er,H⟩:=fU H
  obtain ⟨et,H⟩:=fU H
  have H':=m_ H
  clear H
  try go_wp2
  obtain ⟨a6,a5,a7,HB⟩:=wQ a6 a5 a7 HB
  have ax:0≤(ae:Int):=bC bD
  have dw:ae < (aK.length:Int):=bC bD
  obtain ⟨bi,bz,ab,aa,ac⟩:=jP rC.out ae ax dw
  have am:=ac
  have af:=aa
  have an:=ab
  (try rw [← AY.out] at aa)
  (try rw [← AY.out] at af)
  obtain rfl:a9=bi:=(by injection bz)
  replace ab:=gu HB.out ab
  replace aa:=gu HB.out aa
  replace ac:=gu HB.out ac
  replace ax:=eq_true ax
  replace dw:=eq_true dw
  have cw:0≤((mG):Int):=bC bD
  have cx:(mG) < (aK.length:Int):=bC bD
  obtain ⟨di,e6,b5,bP,b6⟩:=jP rC.out (mG) cw cx
  have bu:=b6
  have bb:=bP
  have bv:=b5
  (try rw [← AY.out] at bP)
  (try rw [← AY.out] at bb)
  obtain rfl:a9=di:=(by injection e6)
  replace b5:=gu HB.out b5
  replace bP:=gu HB.out bP
  replace b6:=gu HB.out b6
  replace cw:=eq_true cw
  replace cx:=eq_true cx
  refine iH (n:=35) (S:=fun w'=>lD w' ar (.slice (some a9) aK.length aq) <| zG w' aw (.string ((au aK a8).f0)) (.bool ((au aK a8).f1)) (.string ((au aK a8).f2)) <| FZ w' (a9.add ((ae).toNat * 3)) (.string ((au aK ae).f0)) (.bool true) (.string ((au aK ae).f2)) <| uw w' (a9.add (((mG)).toNat * 3)) (.string ((au aK (mG)).f0)) (.bool ((au aK (mG)).f1)) (.string ((au aK (mG)).f2))) (ds:=[]) CV aB rfl rfl ⟨(aO a5.out 0).trans rfl,vC a7.out ⟨((HB.out.cell (World.block_lt_of_cell? w _ an)).trans an),((HB.out.cell (World.block_lt_of_cell? w _ af)).trans af),((HB.out.cell (World.block_lt_of_cell? w _ am)).trans am),((HB.out.cell (World.block_lt_of_cell? w _ bv)).trans bv),((HB.out.cell (World.block_lt_of_cell? w _ bb)).trans bb),((HB.out.cell (World.block_lt_of_cell? w _ bu)).trans bu)⟩⟩ (fun hH=>?_);refine jC iP.xw iP.wM (fun aS gJ=>?_)
  generalize cp.drew=fy at a6 a5 a7 HB ab aa ac b5 bP b6 hH ⊢
  refine aI 0 ?_
  refine aI 1 ?_
  refine aI 2 ?_
  refine aI 3 ?_
  refine aI 4 ?_
  refine aI 5 ?_
  refine aI 6 ?_
  refine aI 7 ?_
  refine aI 8 ?_
  refine aI 9 ?_
  refine aI 11 ?_
  refine fV 10 hH ?_
  refine aI 12 ?_
  refine aI 13 ?_
  refine fV 14 hH ?_
  refine aI 15 ?_
  refine aI 16 ?_
  refine aI 17 ?_
  refine aI 18 ?_
  refine aI 19 ?_
  refine aI 20 ?_
  refine aI 21 ?_
  refine aI 22 ?_
  refine aI 23 ?_
  refine aI 25 ?_
  refine aI 26 ?_
  refine aI 30 ?_
  refine fV 24 hH ?_
  refine aI 27 ?_
  refine aI 28 ?_
  refine fV 29 hH ?_
  refine fV 31 hH ?_
  refine aI 32 ?_
  refine aI 33 ?_
  refine aI 34 ?_
  refine iF (jB aS.out aB) ?_
  try go_wp2
  go_meet
  case rel=>exact ⟨_,(!(Op.bytesLess (((au aK (mG)).f0).toList) (((au aK a8).f0).toList))),(by first|rfl|(simp;done)|exact congrArg Value.bool (uz _ _)|exact congrArg Value.bool (wo _ _)|(simp only [Value.bool.injEq];first|exact uz _ _|exact wo ..)|(simp only [← zi] <;> (first|rfl|simp))|(simp [*];done)),H',⟨xY⟩,⟨(aj a6)⟩,⟨(aj a5)⟩,⟨(aj a7)⟩,⟨ay⟩⟩
 case rest =>
 clear cm
 obtain ⟨kq,ba,rfl,HA,I5,a6,a5,a7,HB⟩:=hcut
 cases kq with
 | zero=>exact absurd HA.out (by simp [iP.j2])
 | succ JZ =>
 obtain ⟨H⟩:=HA
 simp only [iP.j2] at H
 by_cases dx:ba=true
 ·subst dx
  rw [if_pos rfl] at H
  obtain rfl:=cZ H
  go_wp2
  go_ret
  exact ⟨b_,ay⟩
 replace dx:=Bool.eq_false_iff.mpr dx
 subst dx
 rw [if_neg iO] at H
 revert H;refine fJ (fun d2 H=>?_) fun d2 H=>?_
 rotate_left
 ·have dj:((au aK a8).f1)=false:=by simpa using d2
  clear d2
  have dk:=m_ H
  clear H
  have dl:=nP a7.out
  go_upto_if 99 with (fail)
  (try clear aP fF ai bh be dM)
  (try clear ci)
  (try clear dl)
  (try clear az b0 b1)
  obtain ⟨H⟩:=dk
  revert H;refine fJ (fun d3 H=>?_) fun d3 H=>?_
  ·have bj:=lC d3
   have dm:decide (128 < ((au aK a8).f2).size)=true:=lC (by omega)
   clear d3
   try simp only [bI,bY,bj]
   obtain rfl:=cZ H
   go_wp2
   go_ret
   exact ⟨b_,ay⟩
  have bj:=qE d3
  have dm:decide (128 < ((au aK a8).f2).size)=false:=qE (by omega)
  clear d3
  try simp only [bI,bY,bj]
  have H':=m_ H
  clear H
  go_wp2
  go_roundg JZ
  case measure=>have:=HJ2.out;have:=jv.out;have:=I5.out;omega
  case rel=>exact ⟨(wrap64 (a8+1)),bg,H',⟨(by have:=HJ2.out;have:=jv.out;have:=I5.out;omega)⟩,⟨(aj a6)⟩,⟨(aj a5)⟩,⟨ay⟩⟩
 have dj:((au aK a8).f1)=true:=d2
 clear d2
 revert H;refine fJ (fun cy H=>?_) fun cy H=>?_
 rotate_left
 ·have kM:=gU cy
  have dp:=gV cy
  obtain rfl:=cZ H
  have fb:=nP a7.out
  go_wp2
  go_ret
  exact ⟨b_,ay⟩
 have kM:=gZ cy
 have dp:=g_ cy
 clear cy
 obtain ⟨ca,rV,H⟩:=bd_ H
 revert H;refine fJ (fun d4 H=>?_) fun d4 H=>?_
 ·have dq:=lC d4
  have dr:decide (6 < ca.length)=true:=lC (by omega)
  clear d4
  obtain rfl:=cZ H
  have fc:=nP a7.out
  have Lc:=cu a5.out
  go_wp2_with (first|(go_at_call 20;(with_reducible refine (nS.calls JZ _ _ aK ((au aK a8).f0) ca _ l9 bc.out rV.out).mono ?_);rintro e g6 ⟨ac5,rfl,ho0,hb⟩;obtain ⟨cc,a6,a5,a7,HB⟩:=p_ (Kd.dK ho0 (dO ay)) <| wO (aj a6) (aj a5) (aj a7) ay hb;(try clear hb);(try clear ho0);obtain ⟨fd,fe,e7⟩:=Kd.dJ cc.out;subst e7))
  go_ret
  exact ⟨b_,ay⟩
 have dq:=qE d4
 have dr:decide (6 < ca.length)=false:=qE (by omega)
 clear d4
 have dt:=m_ H
 clear H
 have du:=nP a7.out
 have adA:=cu a5.out
 go_upto_if 99 with (first|(go_at_call 20;(with_reducible refine (nS.calls JZ _ _ aK ((au aK a8).f0) ca _ l9 bc.out rV.out).mono ?_);rintro e g7 ⟨ac5,rfl,ho0,hb⟩;obtain ⟨cc,a6,a5,a7,HB⟩:=p_ (Kd.dK ho0 (dO ay)) <| wO (aj a6) (aj a5) (aj a7) ay hb;(try clear hb);(try clear ho0);obtain ⟨ff,fg,e8⟩:=Kd.dJ cc.out;subst e8;have dv:=nP a7.out))
 (try simp only [Act.put,List.setIfInBounds_toArray,List.set_cons_zero,List.set_cons_succ])
 (try clear aP fF ai bh be dM)
 (try clear ci)
 (try clear du)
 (try clear adA)
 (try clear dv)
 (try clear az b0 b1)
 obtain ⟨H⟩:=dt
 revert H;refine fJ (fun d5 H=>?_) fun d5 H=>?_
 ·have bl:=lC d5
  have lZ:decide (128 < ((au aK a8).f2).size)=true:=lC (by omega)
  clear d5
  try simp only [bI,bY,bl]
  obtain rfl:=cZ H
  go_wp2
  go_ret
  exact ⟨b_,ay⟩
 have bl:=qE d5
 have lZ:decide (128 < ((au aK a8).f2).size)=false:=qE (by omega)
 clear d5
 try simp only [bI,bY,bl]
 have H':=m_ H
 clear H
 go_wp2
 go_roundg JZ
 case measure=>have:=HJ2.out;have:=jv.out;have:=I5.out;omega
 case rel=>exact ⟨(wrap64 (a8+1)),bg,H',⟨(by have:=HJ2.out;have:=jv.out;have:=I5.out;omega)⟩,⟨(aj a6)⟩,⟨(aj a5)⟩,⟨ay⟩⟩

end Go.Proofs.YthejdhjpbpamoaaGreatDoor.jM
