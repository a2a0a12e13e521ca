/- Contracts of Go functions: each call returns what the Lean function beside it computes. Conditions: as each theorem states them. -/
import Derived.Test.YthejdhjpbpamoaaGreatDoorPkFnMoves
import Derived.Test.YthejdhjpbpamoaaGreatDoorPFnMovesx1
import Derived.Test.YthejdhjpbpamoaaGreatDoorPFnMovesx2
import Derived.Test.YthejdhjpbpamoaaGreatDoorPFnMovesx3
namespace Go.Proofs.YthejdhjpbpamoaaGreatDoor.jM
open Go.RowKit Go.Proofs.YthejdhjpbpamoaaGreatDoorW.iK Go.Proofs.YthejdhjpbpamoaaGreatDoorW.lX Go.Proofs.YthejdhjpbpamoaaGreatDoorW.oV Go.Proofs.Tryz
attribute [local go_sem] qI qM qL qP qK qO qJ qN   -- for this text's walks alone
set_option linter.unusedVariables false
set_option maxHeartbeats 8000000
set_option maxRecDepth 100000
set_option linter.unusedSimpArgs false

def nS.l0:Nat→ByteArray→List ByteArray→Int→List (aC)→Option (List ByteArray)
 | 0,_,_,_,_=>none
 | k+1,x1,x5,x6,a5=>if x6 < (a5.length:Int) then (if 0≤x6 then ((uK.f k ((au a5 x6).f0)).bind fun a6=>(if a6.toList=x1.toList then (if x1.toList=([]:List UInt8) then (nS.l0 k x1 x5 (wrap64 (x6+1)) a5) else ((DY.f k ((au a5 x6).f0)).bind fun a7=>(if x5.length < 8796093022208 then (nS.l0 k x1 (x5++[a7]) (wrap64 (x6+1)) a5) else (none)))) else (nS.l0 k x1 x5 (wrap64 (x6+1)) a5))) else (none)) else (some x5)
def nS.f (k:Nat) (a5:List (aC)) (a1:ByteArray):Option (List ByteArray):=nS.l0 k a1 (([]:List ByteArray)) 0 a5
theorem nS.calls (k:Nat) (ao:Option Addr) (aN:Nat) (aH:List (aC)) (a1:ByteArray) (r:List ByteArray) (w:World) (aq:Kd.C bF w ao aH.length aH) (ar:aH.length≤aN) (h:nS.f k aH a1=some r) :
  Calls Tryz.prog 20 #[.agg #[.slice ao aH.length aN],.string a1] w fun e w'=>∃ gQ:Value,e=.returned (gQ)∧Kd.R Kd.string 9 w' w.heap.size (fun _=>True) gQ r∧Below w.heap.size w w':=by
 have oq:=underlying28
 have lF:=m_ aq
 have be:=m_ ar
 clear aq ar
 have HB:=m_ (Below.refl w.heap.size w)
 unfold nS.f at h
 have H:=h
 clear h
 obtain ⟨b2,aT⟩:∃ y_:List ByteArray,y_=(([]:List ByteArray)):=⟨_,rfl⟩
 rw [← aT] at H
 have bP:=m_ aT
 clear aT
 have H':=m_ H
 clear H
 go_enter func20,ntmps20
 go_wp2_with (first|((with_reducible refine dG 2 ?_);refine dU 2 (cs:=#[.slice ao aH.length aN]) 28 ?_;intro av hg w3 hbox hb;obtain ⟨HB,a5,fF,dM⟩:=kE ay hb hbox hg;clear hb hbox hg)|((with_reducible refine dG 7 ?_);refine Kd.qV Kd.string _ 9 ?hg (N:=7) ?hd (xs:=([]:List ByteArray)) (inner:=[]) (ok:=fun _=>True) (iT:=fun _=>True) ?hr ?hp (fun _ hk=>hk) trivial (Below.refl _ _) (Nat.le_refl _) (by simp) ?_;(case hd=>rfl);(case hg=>rfl);(case hr=>first|(go_simp;done)|(go_simp;rfl));(case hp=>exact (bM.none _ _));intro aiF w4 G_ hb jc jd;clear jc jd;(first|rw [← bP.out] at G_|(simp only [Int.reduceToNat] at G_;rw [← bP.out] at G_));obtain ⟨b3,a5,HB⟩:=p_ (Kd.dK G_ (dO ay)) <| tZ (aj a5) ay hb;clear hb G_))
 go_loopg [5,6] k (fun kq v5 v6 w'=>∃ (ac:List ByteArray) (a6:Int),v6=ah a6∧aA (nS.l0 kq a1 ac a6 aH=some r)∧aA (kq≤k)∧aA (Kd.R Kd.string 9 w' w.heap.size (fun _=>True) v5 ac)∧aA (w'.heap[av]?=some (.cells #[(.slice ao aH.length aN)] 28))∧aA (Below w.heap.size w w'))
 case atStart=>exact ⟨(b2),(0),bg,H',⟨Nat.le_refl _⟩,⟨(aG b3)⟩,⟨(aj a5)⟩,⟨ay⟩⟩
 case round =>
 clear H'
 obtain ⟨ac,a6,rfl,HA,iq,aa,a5,HB⟩:=hrel
 cases gk with
 | zero=>exact absurd HA.out (by simp [nS.l0])
 | succ k1 =>
 obtain ⟨H⟩:=HA
 simp only [nS.l0] at H
 have bh:=m_ H
 clear H
 have Ed:=cu a5.out
 go_upto_if 12 with (fail)
 (try clear Ed)
 obtain ⟨H⟩:=bh
 revert H;refine gI (fun al H=>?_) fun al H=>?_
 rotate_left
 ·try simp only [bI,bY,al]
  obtain rfl:=cZ H
  go_wp2
  go_ret
  exact ⟨_,b_,(aG aa),ay⟩
 try simp only [bI,bY,al]
 obtain ⟨bl,H⟩:=fU H
 obtain ⟨aw,bi,H⟩:=bd_ H
 revert H;refine fJ (fun ax H=>?_) fun ax H=>?_
 rotate_left
 ·have b4:=gU ax
  have b5:=gV ax
  have H':=m_ H
  clear H
  have Ql:=cu a5.out
  have ae:0≤(a6:Int):=bC bD
  have af:a6 < (aH.length:Int):=bC bD
  obtain ⟨am,dw,a7,a8,a9⟩:=jP lF.out a6 ae af
  cases dw
  replace a7:=gu HB.out a7
  replace a8:=gu HB.out a8
  replace a9:=gu HB.out a9
  replace ae:=eq_true ae
  replace af:=eq_true af
  go_wp2_with (first|((with_reducible refine bU 51 ?_);refine bV (some 21) rfl rfl func51 aB rfl #[.string ((au aH a6).f0)] rfl aW ?_;(with_reducible refine (uK.calls k1 ((au aH a6).f0) aw _ bi.out).mono ?_);rintro e fK ⟨rfl,hb⟩;refine ⟨_,rfl,?_⟩;obtain ⟨aa,a5,HB⟩:=p_ (Kd.bn (aG aa) hb) <| tZ (aj a5) ay hb;(try clear hb)))
  go_roundg k1
  case measure=>have:=iq.out;omega
  case rel=>exact ⟨(ac),(wrap64 (a6+1)),bg,H',⟨nT⟩,⟨(aG aa)⟩,⟨(aj a5)⟩,⟨ay⟩⟩
 have b4:=gZ ax
 have b5:=g_ ax
 clear ax
 have b6:=m_ H
 clear H
 have FV:=cu a5.out
 have ae:0≤(a6:Int):=bC bD
 have af:a6 < (aH.length:Int):=bC bD
 obtain ⟨am,dw,a7,a8,a9⟩:=jP lF.out a6 ae af
 cases dw
 replace a7:=gu HB.out a7
 replace a8:=gu HB.out a8
 replace a9:=gu HB.out a9
 replace ae:=eq_true ae
 replace af:=eq_true af
 go_upto_if 27 with (first|((with_reducible refine bU 51 ?_);refine bV (some 21) rfl rfl func51 aB rfl #[.string ((au aH a6).f0)] rfl aW ?_;(with_reducible refine (uK.calls k1 ((au aH a6).f0) aw _ bi.out).mono ?_);rintro e bo ⟨rfl,hb⟩;refine ⟨_,rfl,?_⟩;obtain ⟨aa,a5,HB⟩:=p_ (Kd.bn (aG aa) hb) <| tZ (aj a5) ay hb;(try clear hb)))
 (try simp only [Act.put,List.setIfInBounds_toArray,List.set_cons_zero,List.set_cons_succ])
 (try clear FV)
 (try clear a7 a8 a9)
 obtain ⟨H⟩:=b6
 revert H;refine fJ (fun az H=>?_) fun az H=>?_
 ·have ab:=gZ az
  have b7:=g_ az
  clear az
  (first|rw [ab]|(simp only [bI,bY];rw [ab])|rw [show (a1.toList).isEmpty=true from by simpa using ab]|skip)
  have H':=m_ H
  clear H
  go_wp2
  go_roundg k1
  case measure=>have:=iq.out;omega
  case rel=>exact ⟨(ac),(wrap64 (a6+1)),bg,H',⟨nT⟩,⟨(aG aa)⟩,⟨(aj a5)⟩,⟨ay⟩⟩
 have ab:=gU az
 have b7:=gV az
 (first|rw [ab]|(simp only [bI,bY];rw [ab])|rw [show (a1.toList).isEmpty=false from by simpa using ab]|skip)
 obtain ⟨ap,bm,H⟩:=bd_ H
 obtain ⟨bj,H⟩:=lG H
 have b8:=m_ bj
 clear bj
 obtain ⟨b9,an⟩:∃ y_:List ByteArray,y_=(ac++[ap]):=⟨_,rfl⟩
 rw [← an] at H
 have ba:=m_ an
 clear an
 have H':=m_ H
 clear H
 have FW:=cu a5.out
 have b0:0≤(a6:Int):=bC bD
 have b1:a6 < (aH.length:Int):=bC bD
 obtain ⟨bb,bd,ag,aP,ai⟩:=jP lF.out a6 b0 b1
 obtain rfl:am=bb:=(by injection bd)
 replace ag:=gu HB.out ag
 replace aP:=gu HB.out aP
 replace ai:=gu HB.out ai
 replace b0:=eq_true b0
 replace b1:=eq_true b1
 go_wp2_with (first|((with_reducible refine bU 63 ?_);refine bV (some 35) rfl rfl func63 aB rfl #[.string ((au aH a6).f0)] rfl aW ?_;(with_reducible refine (DY.calls k1 ((au aH a6).f0) ap _ bm.out).mono ?_);rintro e bp ⟨rfl,hb⟩;refine ⟨_,rfl,?_⟩;obtain ⟨aa,a5,HB⟩:=p_ (Kd.bn (aG aa) hb) <| tZ (aj a5) ay hb;(try clear hb))|((with_reducible refine wW (b:=.append) (xs:=#[.tmp 28,.tmp 36]) rfl ?_);at_builtin;refine Kd.CS Kd.string (w0:=w) w.heap.size rfl (.tmp 28) (.tmp 36) 38 9 (.string ⟨#[]⟩) 16 rfl underlying38 info9 rfl (by decide) (by omega) u5 ac ap [.string ap] (fun _=>True) (fun _=>False) rfl rfl ?rD (fun _ hk=>hk.elim) ?kS ?ku ?lu ?kC ?aL ?_;(case rD=>exact rfl);(case lu=>exact ay);(case kS=>exact (fun _ _=>trivial));(case ku=>exact (aG aa));(case kC=>exact (dO ay));(case aL=>have:=b8.out;omega);intro aiG bq ho hb hg hat;rw [← ba.out] at ho;obtain ⟨a5,HB,bc⟩:=p_ (iE (g:=av) (o:=.cells #[.slice (some am) aH.length aN] 28) (aj a5) hg (Kd.iw aa.out a5.out (by decide))) <| p_ (hb) <| a_ (ho);clear ho hb hg hat))
 go_roundg k1
 case measure=>have:=iq.out;omega
 case rel=>exact ⟨(b9),(wrap64 (a6+1)),bg,H',⟨nT⟩,⟨(aG bc)⟩,⟨(aj a5)⟩,⟨ay⟩⟩

def xW.f (k:Nat) (a6:List (aC)) (a1:ByteArray):Option (Bool):=if a1.toList=([47]:List UInt8) then (some true) else ((nR.f k a6 a1).bind fun a5=>(if a5 ≥ 0 then (if 0≤a5 then (if a5 < (a6.length:Int) then (some ((au a6 a5).f1)) else (none)) else (none)) else (some false)))
theorem xW.calls (k:Nat) (aa:Option Addr) (ab:Nat) (aH:List (aC)) (a1:ByteArray) (r:Bool) (w:World) (ae:Kd.C bF w aa aH.length aH) (af:aH.length≤ab) (h:xW.f k aH a1=some r) :
  Calls Tryz.prog 54 #[.agg #[.slice aa aH.length ab],.string a1] w fun e w'=>e=.returned (.bool r)∧Below w.heap.size w w':=by
 have oq:=underlying28
 have lF:=m_ ae
 have ag:=m_ af
 clear ae af
 have HB:=m_ (Below.refl w.heap.size w)
 unfold xW.f at h
 have H:=h
 clear h
 have am:=m_ H
 clear H
 go_enter func54,ntmps54
 go_upto_if 7 with (first|((with_reducible refine dG 2 ?_);refine dU 2 (cs:=#[.slice aa aH.length ab]) 28 ?_;intro an hg w4 hbox hb;obtain ⟨HB,a5,ao,ap⟩:=kE ay hb hbox hg;clear hb hbox hg))
 (try simp only [Act.put,List.setIfInBounds_toArray,List.set_cons_zero,List.set_cons_succ])
 obtain ⟨H⟩:=am
 revert H;refine fJ (fun c5 H=>?_) fun c5 H=>?_
 ·have ac:=gZ c5
  have aN:=g_ c5
  clear c5
  try simp only [bI,bY,ac]
  obtain rfl:=cZ H
  go_wp2
  go_ret
  exact ⟨b_,ay⟩
 have ac:=gU c5
 have aN:=gV c5
 try simp only [bI,bY,ac]
 obtain ⟨a9,A6,H⟩:=bd_ H
 revert H;refine gI (fun aT H=>?_) fun aT H=>?_
 rotate_left
 ·obtain rfl:=cZ H
  have FV:=cu a5.out
  go_wp2_with (first|((with_reducible refine bU 13 ?_);refine bV (some 10) rfl rfl func13 aB rfl #[.agg #[.slice aa aH.length ab],.string a1] rfl aW ?_;(with_reducible refine (nR.calls k _ _ aH a1 a9 _ sD ag.out A6.out).mono ?_);rintro e av ⟨rfl,hb⟩;refine ⟨_,rfl,?_⟩;obtain ⟨a5,HB⟩:=tZ (aj a5) ay hb;(try clear hb)))
  go_ret
  exact ⟨b_,ay⟩
 obtain ⟨ar,H⟩:=fU H
 obtain ⟨bP,H⟩:=fU H
 obtain rfl:=cZ H
 have Qg:=cu a5.out
 go_wp2_with (first|((with_reducible refine bU 13 ?_);refine bV (some 10) rfl rfl func13 aB rfl #[.agg #[.slice aa aH.length ab],.string a1] rfl aW ?_;(with_reducible refine (nR.calls k _ _ aH a1 a9 _ sD ag.out A6.out).mono ?_);rintro e aw ⟨rfl,hb⟩;refine ⟨_,rfl,?_⟩;obtain ⟨a5,HB⟩:=tZ (aj a5) ay hb;(try clear hb);have zF:=cu a5.out;have aP:0≤(a9:Int):=bC bD;have ai:a9 < (aH.length:Int):=bC bD;obtain ⟨aq,al,a6,a7,a8⟩:=jP lF.out a9 aP ai;cases al;replace a6:=gu HB.out a6;replace a7:=gu HB.out a7;replace a8:=gu HB.out a8;replace aP:=eq_true aP;replace ai:=eq_true ai))
 go_ret
 exact ⟨b_,ay⟩

mutual
def pz.j0:Nat→List ByteArray→Int→Bool→List (aC)→Option (Int)
 | 0,_,_,_,_=>none
 | k+1,x5,x6,a6,a5=>if a6=true then (some 0) else (if x6=0 then (pz.l0 k x5 1 a5) else (some x6))
def pz.l0:Nat→List ByteArray→Int→List (aC)→Option (Int)
 | 0,_,_,_=>none
 | k+1,x5,x7,a5=>if x7 < (x5.length:Int) then (if 0≤x7 then (if x7≤(x5.length:Int) then ((tu.f k (x5.take (x7:Int).toNat)).bind fun a6=>((nR.f k a5 a6).bind fun a7=>(if a7 < 0 then (some 3) else ((xW.f k a5 a6).bind fun a8=>(if a8=true then (pz.l0 k x5 (wrap64 (x7+1)) a5) else (some 4)))))) else (none)) else (none)) else (some 3)
end
def pz.f (k:Nat) (a6:List (aC)) (a1:ByteArray):Option (Int):=(jm.f k a1).bind fun a5=>(if a1.toList=([47]:List UInt8) then (pz.j0 k a5.1 a5.2 true a6) else ((nR.f k a6 a1).bind fun a7=>(pz.j0 k a5.1 a5.2 (decide (a7 ≥ 0)) a6)))
theorem pz.calls (k:Nat) (ae:Option Addr) (af:Nat) (aH:List (aC)) (a1:ByteArray) (r:Int) (w:World) (ao:Kd.C bF w ae aH.length aH) (ap:aH.length≤af) (h:pz.f k aH a1=some r) :
  Calls Tryz.prog 26 #[.agg #[.slice ae aH.length af],.string a1] w fun e w'=>e=.returned (ah r)∧Below w.heap.size w w':=by
 have oq:=underlying28
 have lF:=m_ ao
 have ai:=m_ ap
 clear ao ap
 have HB:=m_ (Below.refl w.heap.size w)
 unfold pz.f at h
 have H:=h
 clear h
 obtain ⟨⟨a6,ax⟩,A3,H⟩:=bd_ H
 try dsimp -simprocs only at H
 have ba:=m_ H
 clear H
 go_enter func26,ntmps26
 go_upto_region 2 with (first|((with_reducible refine dG 2 ?_);refine dU 2 (cs:=#[.slice ae aH.length af]) 28 ?_;intro aq hg w5 hbox hb;obtain ⟨HB,a5,fF,dM⟩:=kE ay hb hbox hg;clear hb hbox hg)|((with_reducible refine bU 53 ?_);refine bV (some 11) rfl rfl func53 aB rfl #[.string a1] rfl aW ?_;(with_reducible refine (jm.calls k a1 a6 ax _ A3.out).mono ?_);rintro e w6 ⟨v203,rfl,ho0,hb⟩;refine ⟨_,rfl,?_⟩;obtain ⟨a9,a5,HB⟩:=p_ (Kd.dK ho0 (dO ay)) <| tZ (aj a5) ay hb;(try clear hb);(try clear ho0)))
 (try simp only [Act.put,List.setIfInBounds_toArray,List.set_cons_zero,List.set_cons_succ])
 go_cut [21] (fun v21 wc=>∃ (kq:Nat) (aP:Bool),v21=.bool aP∧aA (pz.j0 kq a6 ax aP aH=some r)∧aA (kq≤k)∧aA (Kd.R Kd.string 9 wc w.heap.size (fun _=>True) v203 a6)∧aA (wc.heap[aq]?=some (.cells #[(.slice ae aH.length af)] 28))∧aA (Below w.heap.size w wc))
 case first =>
  obtain ⟨H⟩:=ba
  revert H;refine fJ (fun c7 H=>?_) fun c7 H=>?_
  ·have ag:=gZ c7
   have dw:=g_ c7
   clear c7
   try simp only [bI,bY,ag]
   have H':=m_ H
   clear H
   go_wp2
   go_meet
   case rel=>exact ⟨_,(true),bg,H',⟨kH⟩,⟨(aG a9)⟩,⟨(aj a5)⟩,⟨ay⟩⟩
  have ag:=gU c7
  have dw:=gV c7
  try simp only [bI,bY,ag]
  obtain ⟨b3,x8,H⟩:=bd_ H
  have H':=m_ H
  clear H
  have Ee:=cu a5.out
  go_wp2_with (first|(go_at_call 13;(with_reducible refine (nR.calls k _ _ aH a1 b3 _ sD ai.out x8.out).mono ?_);rintro e bp ⟨rfl,hb⟩;obtain ⟨a9,a5,HB⟩:=p_ (Kd.bn (aG a9) hb) <| tZ (aj a5) ay hb;(try clear hb)))
  go_meet
  case rel=>exact ⟨_,(decide (b3 ≥ 0)),bg,H',⟨kH⟩,⟨(aG a9)⟩,⟨(aj a5)⟩,⟨ay⟩⟩
 case rest =>
 clear ba
 obtain ⟨kq,aP,rfl,HA,I4,a7,a5,HB⟩:=hcut
 cases kq with
 | zero=>exact absurd HA.out (by simp [pz.j0])
 | succ DJ =>
 obtain ⟨H⟩:=HA
 simp only [pz.j0] at H
 by_cases b4:aP=true
 ·subst b4
  rw [if_pos rfl] at H
  obtain rfl:=cZ H
  go_wp2
  go_ret
  exact ⟨b_,ay⟩
 replace b4:=Bool.eq_false_iff.mpr b4
 subst b4
 rw [if_neg iO] at H
 revert H;refine fJ (fun ar H=>?_) fun ar H=>?_
 rotate_left
 ·have bP:=gU ar
  have av:=gV ar
  obtain rfl:=cZ H
  go_wp2
  go_ret
  exact ⟨b_,ay⟩
 have bP:=gZ ar
 have av:=g_ ar
 clear ar
 have H':=m_ H
 clear H
 go_wp2
 go_loopg [7] DJ (fun kq v7 w'=>∃ (a8:Int),v7=ah a8∧aA (pz.l0 kq a6 a8 aH=some r)∧aA (kq≤DJ)∧aA (Kd.R Kd.string 9 w' w.heap.size (fun _=>True) v203 a6)∧aA (w'.heap[aq]?=some (.cells #[(.slice ae aH.length af)] 28))∧aA (Below w.heap.size w w'))
 case atStart=>exact ⟨(1),bg,H',⟨Nat.le_refl _⟩,⟨(aG a7)⟩,⟨(aj a5)⟩,⟨ay⟩⟩
 case round =>
 clear H'
 try clear b4;try clear ar;try clear bP;try clear av
 obtain ⟨a8,rfl,HA,jv,a7,a5,HB⟩:=hrel
 cases gk with
 | zero=>exact absurd HA.out (by simp [pz.l0])
 | succ k2 =>
 obtain ⟨H⟩:=HA
 simp only [pz.l0] at H
 have b5:=m_ H
 clear H
 obtain ⟨az,al,bb⟩:=Kd.dJ a7.out
 subst bb
 go_upto_if 28 with (fail)
 obtain ⟨H⟩:=b5
 revert H;refine gI (fun aa H=>?_) fun aa H=>?_
 rotate_left
 ·try simp only [bI,bY,aa]
  obtain rfl:=cZ H
  go_wp2
  go_ret
  exact ⟨b_,ay⟩
 try simp only [bI,bY,aa]
 obtain ⟨bh,bi,H⟩:=kT H
 obtain ⟨bj,bl,H⟩:=kT H
 obtain ⟨aN,aT⟩:∃ y_:List ByteArray,y_=(a6.take (a8:Int).toNat):=⟨_,rfl⟩
 rw [← aT] at H
 have aw:=m_ aT
 clear aT
 obtain ⟨ab,bm,H⟩:=bd_ H
 obtain ⟨am,fK,H⟩:=bd_ H
 have b6:=m_ H
 clear H
 have be:(a8:Int)≤((a6.length:Int):Int):=bC bD
 obtain ⟨ah5,TS,_,aat,_⟩:=info_parts info9
 have Ua:a6.length≤al:=(Kd.bZ a7.out).2.1
 have TI:Kd.C Kd.string _ az a6.length a6:=(Kd.bZ a7.out).2.2
 have ZK:=EM (P:=Tryz.prog) 38 9 .i64 underlying38 TS az a6.length al a8 (bC bD) be Ua
 have Oh:=Kd.xC (m:=(a8:Int).toNat) TI (by omega)
 have b0:aN.length=(a8:Int).toNat:=(by rw [aw.out,List.length_take];omega)
 rw [← aw.out] at Oh
 rw [← b0] at ZK
 have Jd:=m_ Oh
 have b7:=m_ (show aN.length≤al from by omega)
 clear Oh TI Ua TS aat
 have adW:=m_ b0
 clear b0
 have adU:=m_ (show (a8:Int).toNat≤a6.length from by omega)
 replace be:=eq_true be
 go_upto_if 38 with (first|((with_reducible refine bU 71 ?_);refine bV (some 34) rfl rfl func71 aB rfl #[.slice az aN.length al] rfl aW ?_;(with_reducible refine (tu.calls k2 _ _ aN ab _ ?kG b7.out bm.out).mono ?_);(case kG=>repeat (first|exact PE|(with_reducible refine Kd.jJ ?_ _)|(with_reducible refine Kd.jL ?_ _)|(with_reducible refine Kd.jK ?_)));rintro e w' ⟨rfl,⟨nd,rfl⟩⟩;refine ⟨_,rfl,?_⟩;have KZ:=cu a5.out)|((with_reducible refine bU 13 ?_);refine bV (some 37) rfl rfl func13 aB rfl #[.agg #[.slice ae aH.length af],.string ab] rfl aW ?_;(with_reducible refine (nR.calls k2 _ _ aH ab am _ ?kG ai.out fK.out).mono ?_);(case kG=>repeat (first|exact (Kd.qg lF.out ay)|(with_reducible refine Kd.jJ ?_ _)|(with_reducible refine Kd.jL ?_ _)|(with_reducible refine Kd.jK ?_)));rintro e bq ⟨rfl,hb⟩;refine ⟨_,rfl,?_⟩;obtain ⟨a7,a5,Jd,HB⟩:=p_ (Kd.bn (aG a7) hb) <| p_ (bG (aj a5) hb) <| p_ (Kd.qg PE hb) <| a_ (dI ay hb);(try clear hb)))
 (try simp only [Act.put,List.setIfInBounds_toArray,List.set_cons_zero,List.set_cons_succ])
 (try clear KZ)
 obtain ⟨H⟩:=b6
 revert H;refine gI (fun ac H=>?_) fun ac H=>?_
 ·try simp only [bI,bY,ac]
  obtain rfl:=cZ H
  go_wp2
  go_ret
  exact ⟨b_,ay⟩
 try simp only [bI,bY,ac]
 obtain ⟨an,bo,H⟩:=bd_ H
 have b8:=m_ H
 clear H
 have Qn:=cu a5.out
 go_upto_if 42 with (first|((with_reducible refine bU 54 ?_);refine bV (some 41) rfl rfl func54 aB rfl #[.agg #[.slice ae aH.length af],.string ab] rfl aW ?_;(with_reducible refine (xW.calls k2 _ _ aH ab an _ sD ai.out bo.out).mono ?_);rintro e br ⟨rfl,hb⟩;refine ⟨_,rfl,?_⟩;obtain ⟨a7,a5,Jd,HB⟩:=p_ (Kd.bn (aG a7) hb) <| p_ (bG (aj a5) hb) <| p_ (Kd.qg PE hb) <| a_ (dI ay hb);(try clear hb)))
 (try simp only [Act.put,List.setIfInBounds_toArray,List.set_cons_zero,List.set_cons_succ])
 (try clear Qn)
 obtain ⟨H⟩:=b8
 by_cases b9:an=true
 rotate_left
 ·replace b9:=Bool.eq_false_iff.mpr b9
  subst b9
  rw [if_neg iO] at H
  obtain rfl:=cZ H
  go_wp2
  go_ret
  exact ⟨b_,ay⟩
 subst b9
 rw [if_pos rfl] at H
 have H':=m_ H
 clear H
 go_wp2
 go_roundg k2
 case measure=>have:=I4.out;have:=jv.out;omega
 case rel=>exact ⟨(wrap64 (a8+1)),bg,H',⟨(by have:=I4.out;have:=jv.out;omega)⟩,⟨(aG a7)⟩,⟨(aj a5)⟩,⟨ay⟩⟩

def pY.f (a5:List (aC)):Option ((List (aC))):=(some (([]:List (aC)):List (aC))).bind fun a6=>(if a6.length+a5.length < 3518437208883 then (some (a6++a5)) else (none))
theorem pY.calls (ab:Option Addr) (ac:Nat) (aH:List (aC)) (r:List (aC)) (w:World) (ae:Kd.C bF w ab aH.length aH) (af:aH.length≤ac) (h:pY.f aH=some r) :
  Calls Tryz.prog 73 #[.agg #[.slice ab aH.length ac]] w fun e w'=>∃ gQ:Value,e=.returned (.agg #[gQ])∧Kd.R bF 43 w' w.heap.size (fun _=>True) gQ r∧Below w.heap.size w w':=by
 have oq:=underlying28
 have lF:=m_ ae
 have av:=m_ af
 clear ae af
 have HB:=m_ (Below.refl w.heap.size w)
 unfold pY.f at h
 have H:=h
 clear h
 obtain ⟨aN,ag,H⟩:=uU H
 obtain ⟨c2,H⟩:=lG H
 have ap:=m_ c2
 clear c2
 obtain ⟨aT,aa⟩:∃ y_:List (aC),y_=(aN++aH):=⟨_,rfl⟩
 rw [← aa] at H
 have al:=m_ aa
 clear aa
 obtain rfl:=cZ H
 go_enter func73,ntmps73
 go_wp2_with (first|((with_reducible refine dG 1 ?_);refine dU 1 (cs:=#[.slice ab aH.length ac]) 28 ?_;intro am hg w3 hbox hb;obtain ⟨HB,a5,aw,ax⟩:=kE ay hb hbox hg;clear hb hbox hg)|((with_reducible refine dG 2 ?_);refine dU 2 (cs:=#[.slice none 0 0]) 28 ?_;intro aP hg w4 hbox hb;obtain ⟨a5,HB,a6,dw,az,a8,a9⟩:=qj (aj a5) ay hb hbox hg;clear hb hbox hg)|((with_reducible refine dG 3 ?_);refine Kd.qV bF _ 43 ?hg (N:=3) ?hd (xs:=([]:List (aC))) (inner:=[]) (ok:=fun _=>True) (iT:=fun _=>True) ?hr ?hp (fun _ hk=>hk) trivial (Below.refl _ _) (Nat.le_refl _) (by simp) ?_;(case hd=>rfl);(case hg=>rfl);(case hr=>first|(go_simp;done)|(go_simp;rfl));(case hp=>exact (bM.none _ _));intro ac1 w5 uI hb jc jd;clear jc jd;(first|rw [← ag.out] at uI|(simp only [Int.reduceToNat] at uI;rw [← ag.out] at uI));obtain ⟨a7,a5,a6,HB⟩:=p_ (Kd.dK uI (dO ay)) <| uF (aj a5) (aj a6) ay hb;clear hb uI;obtain ⟨an,ao⟩:=iJ a8 a9;have wH:=cu a5.out)|((with_reducible refine wW (b:=.append) (xs:=#[.tmp 3,.tmp 5]) rfl ?_);at_builtin;refine Kd.Eu bF (w0:=w) w.heap.size rfl (.tmp 3) (.tmp 5) 26 43 (.agg #[(.string ⟨#[]⟩),(.bool false),(.string ⟨#[]⟩)]) 40 rfl underlying26 o8 rfl (by decide) (by omega) ac1 aN aH _ _ _ (fun _=>True) (fun _=>False) rfl rfl ?ku ?aR (fun _ _ h=>h) (fun _ h=>h.elim) ?kS ?lu ?kC ?aL ?_;(case aR=>exact sD);(case lu=>exact ay);(case kS=>exact (fun _ _=>trivial));(case ku=>exact (aG a7));(case kC=>exact (dO ay));(case aL=>have:=ap.out;omega);intro aiH w9 ho hb hg hat;rw [← al.out] at ho;obtain ⟨a5,a6,HB,ai⟩:=p_ (iE (g:=am) (o:=.cells #[.slice ab aH.length ac] 28) (aj a5) hg (Kd.iw a7.out a5.out (by decide))) <| p_ (iE (g:=aP) (o:=.cells #[.slice none 0 0] 28) (aj a6) hg (Kd.iw a7.out a6.out (by decide))) <| p_ (hb) <| a_ (ho);clear ho hb hg hat;obtain ⟨aq,ar,bP⟩:=Kd.dJ ai.out;subst bP;have Qh:=cu a6.out))
 refine bodyPost_ret (results_cell_row rfl _ _ aP 28 #[.slice aq aT.length ar] (0,0) _ rfl bH underlying28 rfl aB) rfl ?_
 exact ⟨_,b_,(by (with_reducible repeat (first|apply Kd.dR|apply Kd.dS|apply Kd.bK));exact Kd.bW (aU (Kd.dL ai.out a6.out (by decide))) (fun _ hk=>trivial)),ay⟩

def FI.f (a5:Int) (a8:ByteArray) (a9:ByteArray) (aa:Int) (ab:Int) (a6:ByteArray):Option (Bool):=(mZ.f a5 1 11).bind fun a7=>(if a7=true then (some (decide ((a6.size:Int)≤200))) else (some false))
theorem FI.calls (a5:Int) (a7:ByteArray) (a8:ByteArray) (a9:Int) (aa:Int) (ab:ByteArray) (r:Bool) (w:World) (h:FI.f a5 a7 a8 a9 aa ab=some r) :
  Calls Tryz.prog 74 #[.agg #[ah a5,.string a7,.string a8,ah a9,ah aa,.string ab]] w fun e w'=>e=.returned (.bool r)∧Below w.heap.size w w':=by
 have Hy:=underlying45
 have HB:=m_ (Below.refl w.heap.size w)
 unfold FI.f at h
 have H:=h
 clear h
 obtain ⟨ag,A2,H⟩:=bd_ H
 by_cases c3:ag=true
 ·subst c3
  rw [if_pos rfl] at H
  obtain rfl:=cZ H
  go_enter func74,ntmps74
  go_wp2_with (first|((with_reducible refine dG 1 ?_);(try (refine oh (by rfl) ?_;dsimp only));refine dU 1 (cs:=#[ah a5,.string a7,.string a8,ah a9,ah aa,.string ab]) 45 ?_;intro ac hg w4 hbox hb;obtain ⟨HB,a6,ae,af⟩:=kE ay hb hbox hg;clear hb hbox hg;have aP:=jV a6.out)|((with_reducible refine bU 98 ?_);refine bV (some 5) rfl rfl func98 aB rfl #[ah a5,ah 1,ah 11] rfl aW ?_;(with_reducible refine (mZ.calls a5 1 11 true _ A2.out).mono ?_);rintro e w' ⟨rfl,⟨nd,rfl⟩⟩;refine ⟨_,rfl,?_⟩))
  go_ret
  exact ⟨b_,ay⟩
 replace c3:=Bool.eq_false_iff.mpr c3
 subst c3
 rw [if_neg iO] at H
 obtain rfl:=cZ H
 go_enter func74,ntmps74
 go_wp2_with (first|((with_reducible refine dG 1 ?_);(try (refine oh (by rfl) ?_;dsimp only));refine dU 1 (cs:=#[ah a5,.string a7,.string a8,ah a9,ah aa,.string ab]) 45 ?_;intro ac hg w6 hbox hb;obtain ⟨HB,a6,ae,af⟩:=kE ay hb hbox hg;clear hb hbox hg;have ai:=jV a6.out)|((with_reducible refine bU 98 ?_);refine bV (some 5) rfl rfl func98 aB rfl #[ah a5,ah 1,ah 11] rfl aW ?_;(with_reducible refine (mZ.calls a5 1 11 false _ A2.out).mono ?_);rintro e w' ⟨rfl,⟨nd,rfl⟩⟩;refine ⟨_,rfl,?_⟩))
 go_ret
 exact ⟨b_,ay⟩

def lU.f (a0:Int):Option (Int × ByteArray × Int × Bool × List ByteArray):=some (a0,(⟨#[]⟩:ByteArray),0,false,([]:List ByteArray))
theorem lU.calls (a0:Int) (r1:Int) (r2:ByteArray) (r3:Int) (r4:Bool) (r5:List ByteArray) (w:World) (h:lU.f a0=some (r1,r2,r3,r4,r5)) :
  Calls Tryz.prog 75 #[ah a0] w fun e w'=>∃ IU:Value,e=.returned (.agg #[ah r1,.string r2,ah r3,.bool r4,IU])∧Kd.R Kd.string 9 w' w.heap.size (fun _=>True) IU r5∧Below w.heap.size w w':=by
 have JL:=underlying49
 have HB:=m_ (Below.refl w.heap.size w)
 unfold lU.f at h
 have H:=h
 clear h
 simp only [Option.some.injEq,Prod.mk.injEq] at H
 obtain ⟨rfl,rfl,rfl,rfl,rfl⟩:=H
 go_enter func75,ntmps75
 go_wp2_with (first|((with_reducible refine dG 2 ?_);refine dU 2 (cs:=#[ah 0,.string (⟨#[]⟩:ByteArray),ah 0,.bool false,.slice none 0 0]) 49 ?_;intro a5 hg w2 hbox hb;obtain ⟨HB,a6,a7,a8⟩:=kE ay hb hbox hg;clear hb hbox hg;have a9:=vZ a6.out))
 refine bodyPost_ret (results_cell_row rfl _ _ a5 49 #[ah a0,.string (⟨#[]⟩:ByteArray),ah 0,.bool false,.slice none 0 0] (0,0) _ rfl bH underlying49 rfl aB) rfl ?_
 exact ⟨_,b_,tN,ay⟩

def xU.f (k:Nat) (a5:List (aC)) (a1:ByteArray):Option (Int):=(jm.f k a1).bind fun a6=>(if a6.2=0 then (if a1.toList=([47]:List UInt8) then (some 6) else ((uK.f k a1).bind fun a7=>((pz.f k a5 a7).bind fun a8=>(if a8=0 then ((xW.f k a5 a7).bind fun a9=>(if a9=true then ((nR.f k a5 a1).bind fun aa=>(if aa ≥ 0 then (some 6) else ((nS.f k a5 a7).bind fun ab=>(if (ab.length:Int) ≥ 6 then (some 7) else (some 0))))) else (some 4))) else (some a8))))) else (some a6.2))
theorem xU.calls (k:Nat) (aa:Option Addr) (ab:Nat) (aH:List (aC)) (a1:ByteArray) (r:Int) (w:World) (aP:Kd.C bF w aa aH.length aH) (ai:aH.length≤ab) (h:xU.f k aH a1=some r) :
  Calls Tryz.prog 14 #[.agg #[.slice aa aH.length ab],.string a1] w fun e w'=>e=.returned (ah r)∧Below w.heap.size w w':=by
 have oq:=underlying28
 have lF:=m_ aP
 have ae:=m_ ai
 clear aP ai
 have HB:=m_ (Below.refl w.heap.size w)
 unfold xU.f at h
 have H:=h
 clear h
 obtain ⟨⟨b0,am⟩,A3,H⟩:=bd_ H
 try dsimp -simprocs only at H
 have b5:=m_ H
 clear H
 go_enter func14,ntmps14
 go_upto_if 14 with (first|((with_reducible refine dG 2 ?_);refine dU 2 (cs:=#[.slice aa aH.length ab]) 28 ?_;intro b6 hg w5 hbox hb;obtain ⟨HB,a5,b7,b8⟩:=kE ay hb hbox hg;clear hb hbox hg)|((with_reducible refine bU 53 ?_);refine bV (some 10) rfl rfl func53 aB rfl #[.string a1] rfl aW ?_;(with_reducible refine (jm.calls k a1 b0 am _ A3.out).mono ?_);rintro e w6 ⟨v227,rfl,ho0,hb⟩;refine ⟨_,rfl,?_⟩;obtain ⟨a6,a5,HB⟩:=p_ (Kd.dK ho0 (dO ay)) <| tZ (aj a5) ay hb;(try clear hb);(try clear ho0)))
 (try simp only [Act.put,List.setIfInBounds_toArray,List.set_cons_zero,List.set_cons_succ])
 obtain ⟨H⟩:=b5
 revert H;refine fJ (fun c7 H=>?_) fun c7 H=>?_
 rotate_left
 ·have af:=gU c7
  have b1:=gV c7
  try simp only [bI,bY,af]
  obtain rfl:=cZ H
  go_wp2
  go_ret
  exact ⟨b_,ay⟩
 have af:=gZ c7
 have b1:=g_ c7
 clear c7
 try simp only [bI,bY,af]
 revert H;refine fJ (fun c8 H=>?_) fun c8 H=>?_
 ·have b2:=gZ c8
  have b3:=g_ c8
  clear c8
  obtain rfl:=cZ H
  go_wp2
  go_ret
  exact ⟨b_,ay⟩
 have b2:=gU c8
 have b3:=gV c8
 obtain ⟨ac,A9,H⟩:=bd_ H
 obtain ⟨an,b9,H⟩:=bd_ H
 have ao:=m_ H
 clear H
 go_upto_if 23 with (first|((with_reducible refine bU 51 ?_);refine bV (some 19) rfl rfl func51 aB rfl #[.string a1] rfl aW ?_;(with_reducible refine (uK.calls k a1 ac _ A9.out).mono ?_);rintro e fF ⟨rfl,hb⟩;refine ⟨_,rfl,?_⟩;obtain ⟨a6,a5,HB⟩:=p_ (Kd.bn (aG a6) hb) <| tZ (aj a5) ay hb;(try clear hb);have FV:=cu a5.out)|((with_reducible refine bU 26 ?_);refine bV (some 22) rfl rfl func26 aB rfl #[.agg #[.slice aa aH.length ab],.string ac] rfl aW ?_;(with_reducible refine (pz.calls k _ _ aH ac an _ sD ae.out b9.out).mono ?_);rintro e dM ⟨rfl,hb⟩;refine ⟨_,rfl,?_⟩;obtain ⟨a6,a5,HB⟩:=p_ (Kd.bn (aG a6) hb) <| tZ (aj a5) ay hb;(try clear hb)))
 (try simp only [Act.put,List.setIfInBounds_toArray,List.set_cons_zero,List.set_cons_succ])
 (try clear FV)
 obtain ⟨H⟩:=ao
 revert H;refine fJ (fun aN H=>?_) fun aN H=>?_
 rotate_left
 ·have a7:=gU aN
  have ap:=gV aN
  try simp only [bI,bY,a7]
  obtain rfl:=cZ H
  go_wp2
  go_ret
  exact ⟨b_,ay⟩
 have a7:=gZ aN
 have ap:=g_ aN
 clear aN
 try simp only [bI,bY,a7]
 obtain ⟨aq,ba,H⟩:=bd_ H
 have ar:=m_ H
 clear H
 have FW:=cu a5.out
 go_upto_if 27 with (first|((with_reducible refine bU 54 ?_);refine bV (some 30) rfl rfl func54 aB rfl #[.agg #[.slice aa aH.length ab],.string ac] rfl aW ?_;(with_reducible refine (xW.calls k _ _ aH ac aq _ sD ae.out ba.out).mono ?_);rintro e bh ⟨rfl,hb⟩;refine ⟨_,rfl,?_⟩;obtain ⟨a6,a5,HB⟩:=p_ (Kd.bn (aG a6) hb) <| tZ (aj a5) ay hb;(try clear hb)))
 (try simp only [Act.put,List.setIfInBounds_toArray,List.set_cons_zero,List.set_cons_succ])
 (try clear FW)
 obtain ⟨H⟩:=ar
 by_cases az:aq=true
 rotate_left
 ·replace az:=Bool.eq_false_iff.mpr az
  subst az
  rw [if_neg iO] at H
  obtain rfl:=cZ H
  go_wp2
  go_ret
  exact ⟨b_,ay⟩
 subst az
 rw [if_pos rfl] at H
 obtain ⟨bP,bb,H⟩:=bd_ H
 have av:=m_ H
 clear H
 have K_:=cu a5.out
 go_upto_if 32 with (first|((with_reducible refine bU 13 ?_);refine bV (some 35) rfl rfl func13 aB rfl #[.agg #[.slice aa aH.length ab],.string a1] rfl aW ?_;(with_reducible refine (nR.calls k _ _ aH a1 bP _ sD ae.out bb.out).mono ?_);rintro e bi ⟨rfl,hb⟩;refine ⟨_,rfl,?_⟩;obtain ⟨a6,a5,HB⟩:=p_ (Kd.bn (aG a6) hb) <| tZ (aj a5) ay hb;(try clear hb)))
 (try simp only [Act.put,List.setIfInBounds_toArray,List.set_cons_zero,List.set_cons_succ])
 (try clear K_)
 obtain ⟨H⟩:=av
 revert H;refine gI (fun a8 H=>?_) fun a8 H=>?_
 ·try simp only [bI,bY,a8]
  obtain rfl:=cZ H
  go_wp2
  go_ret
  exact ⟨b_,ay⟩
 try simp only [bI,bY,a8]
 obtain ⟨ag,bc,H⟩:=bd_ H
 have aw:=m_ H
 clear H
 have La:=cu a5.out
 go_upto_if 37 with (first|((with_reducible refine bU 20 ?_);refine bV (some 40) rfl rfl func20 aB rfl #[.agg #[.slice aa aH.length ab],.string ac] rfl aW ?_;(with_reducible refine (nS.calls k _ _ aH ac ag _ sD ae.out bc.out).mono ?_);rintro e bj ⟨v234,rfl,ho0,hb⟩;refine ⟨_,rfl,?_⟩;obtain ⟨a6,ax,a5,HB⟩:=p_ (Kd.iY (aG a6) (Kd.iW ho0) hb) <| p_ (Kd.dK (Kd.iZ ho0 (Kd.iD (aG a6))) (dO ay)) <| tZ (aj a5) ay hb;(try clear hb);(try clear ho0);obtain ⟨bd,be,b4⟩:=Kd.dJ ax.out;subst b4))
 (try simp only [Act.put,List.setIfInBounds_toArray,List.set_cons_zero,List.set_cons_succ])
 (try clear La)
 obtain ⟨H⟩:=aw
 revert H;refine fJ (fun al H=>?_) fun al H=>?_
 ·have a9:=lC al
  have dw:decide (6≤ag.length)=true:=lC (by omega)
  clear al
  try simp only [bI,bY,a9]
  obtain rfl:=cZ H
  go_wp2
  go_ret
  exact ⟨b_,ay⟩
 have a9:=qE al
 have dw:decide (6≤ag.length)=false:=qE (by omega)
 clear al
 try simp only [bI,bY,a9]
 obtain rfl:=cZ H
 go_wp2
 go_ret
 exact ⟨b_,ay⟩

end Go.Proofs.YthejdhjpbpamoaaGreatDoor.jM
