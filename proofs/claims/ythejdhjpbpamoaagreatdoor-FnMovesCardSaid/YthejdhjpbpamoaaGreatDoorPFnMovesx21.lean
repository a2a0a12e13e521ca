/- Contracts of Go functions: each call returns what the Lean function beside it computes. Conditions: as each theorem states them. -/
import Derived.Test.YthejdhjpbpamoaaGreatDoorPkFnMoves
import Derived.Test.YthejdhjpbpamoaaGreatDoorPFnMovesx1
import Derived.Test.YthejdhjpbpamoaaGreatDoorPFnMovesx15
import Derived.Test.YthejdhjpbpamoaaGreatDoorPFnMovesx17
import Derived.Test.YthejdhjpbpamoaaGreatDoorPFnMovesx19
import Derived.Test.YthejdhjpbpamoaaGreatDoorPFnMovesx3
namespace Go.Proofs.YthejdhjpbpamoaaGreatDoor.jM
open Go.RowKit Go.Proofs.YthejdhjpbpamoaaGreatDoorW.iK Go.Proofs.YthejdhjpbpamoaaGreatDoorW.lX Go.Proofs.YthejdhjpbpamoaaGreatDoorW.oV Go.Proofs.Tryz
attribute [local go_sem] qI qM qL qP qK qO qJ qN   -- for this text's walks alone
set_option linter.unusedVariables false
set_option maxHeartbeats 8000000
set_option maxRecDepth 100000
set_option linter.unusedSimpArgs false

mutual
def nN.l0:Nat→List (aC)→Int→Unit→Int→Int→Int→Option ((List (aC)))
 | 0,_,_,_,_,_,_=>none
 | k+1,x0,x1,x2,x6,x7,h_=>if h_≤x1 then ((jX.f k x0 x7 h_ x2).bind fun a5=>(nN.l0 k a5 x1 x2 x6 h_ (wrap64 (h_+x6)))) else ((jX.f k x0 x7 x1 x2).bind fun a6=>(nN.l1 k a6 x1 x2 x6))
def nN.l1:Nat→List (aC)→Int→Unit→Int→Option ((List (aC)))
 | 0,_,_,_,_=>none
 | k+1,x0,x1,x2,x6=>if x6 < x1 then (nN.l2 k x0 x1 x2 x6 0 (wrap64 (2 * x6))) else (some x0)
def nN.l2:Nat→List (aC)→Int→Unit→Int→Int→Int→Option ((List (aC)))
 | 0,_,_,_,_,_,_=>none
 | k+1,x0,x1,x2,x6,x7,h_=>if h_≤x1 then ((d_.f k x0 x7 (wrap64 (x7+x6)) h_ x2).bind fun a5=>(nN.l2 k a5 x1 x2 x6 h_ (wrap64 (h_+(wrap64 (2 * x6)))))) else (if (wrap64 (x7+x6)) < x1 then ((d_.f k x0 x7 (wrap64 (x7+x6)) x1 x2).bind fun a6=>(nN.l1 k a6 x1 x2 (wrap64 (x6 * 2)))) else (nN.l1 k x0 x1 x2 (wrap64 (x6 * 2))))
end
def nN.f (k:Nat) (l0:List (aC)) (a1:Int) (a2:Unit):Option ((List (aC))):=nN.l0 k l0 a1 a2 20 0 20
theorem nN.calls (k:Nat) (eG:Nat→Prop) (jk:Value) (l0:List (aC)) (a1:Int) (a2:Unit) (r:List (aC)) (w0 w:World) (hB:Below w0.heap.size w0 w) (ho0:Kd.R bF 43 w w0.heap.size eG jk l0) (h:nN.f k l0 a1 a2=some r) :
  Calls Tryz.prog 96 #[jk,ah a1,.func (.func 48) #[] #[]] w fun e w'=>e=.returned (.tuple #[])∧Kd.R bF 43 w' w0.heap.size (fun aF=>(eG aF∨w.heap.size≤aF)) jk r∧Below w0.heap.size w0 w'∧Kept w w' (fun aF=>eG aF):=by
 have aw:=m_ (show Kd.R bF 43 w w0.heap.size (fun aF=>(eG aF∨w.heap.size≤aF)) jk l0 from Kd.bW ho0 (fun aF hk=>(.inl hk)))
 have HK:=m_ (Kept.refl w (fun aF=>eG aF))
 have HW0:=m_ hB.size
 have HB:=m_ hB
 clear hB
 unfold nN.f at h
 have H:=h
 clear h
 have H':=m_ H
 clear H
 go_enter func96,ntmps96
 go_wp2
 go_loopg [7,8] k (fun kq v7 v8 w'=>∃ (a6:List (aC)) (aa:Int) (dD:Int),v7=ah aa∧v8=ah dD∧aA (nN.l0 kq a6 a1 a2 20 aa dD=some r)∧aA (kq≤k)∧aA (Kd.R bF 43 w' w0.heap.size (fun aF=>(eG aF∨w.heap.size≤aF)) jk a6)∧aA (Kept w w' (fun aF=>eG aF))∧aA (Below w0.heap.size w0 w'))
 case atStart=>exact ⟨(l0),(0),(20),bg,bg,H',⟨Nat.le_refl _⟩,⟨(aG aw)⟩,⟨jh⟩,⟨ay⟩⟩
 case round =>
 clear H'
 obtain ⟨a6,aa,dD,rfl,rfl,HA,iq,bQ,HK,HB⟩:=hrel
 cases gk with
 | zero=>exact absurd HA.out (by simp [nN.l0])
 | succ k1 =>
 obtain ⟨H⟩:=HA
 simp only [nN.l0] at H
 revert H;refine gI (fun aP H=>?_) fun aP H=>?_
 ·obtain ⟨am,A5,H⟩:=bd_ H
  have H':=m_ H
  clear H
  obtain ⟨bP,av,ax⟩:=Kd.dJ bQ.out
  subst ax
  go_wp2_with (first|((with_reducible refine bU 132 ?_);refine bV (some 18) rfl rfl func132 aB rfl #[.slice bP a6.length av,ah aa,ah dD,.func (.func 48) #[] #[]] rfl aW ?_;(with_reducible refine (jX.calls k1 (fun aF=>some aF=(.slice bP a6.length av:Value).ownBlock) (.slice bP a6.length av) a6 aa dD a2 am w0 _ ay (Kd.rU rfl bQ.out) A5.out).mono ?_);rintro e w7 ⟨rfl,ab,hb,hkp⟩;refine ⟨_,rfl,?_⟩;obtain ⟨bQ,HK,HB⟩:=p_ (Kd.vX rfl ab (fun aF e_=>bQ.out.1 aF e_)) <| p_ (Kept.then_ (S:=(fun aF=>eG aF)) jh hkp (fun aF hs_=>(fun e_=>(bQ.out.1 aF e_.symm)) hs_)) <| a_ (hb);(try clear hb);(try clear hkp);(try clear ab)))
  go_roundg k1
  case measure=>have:=iq.out;omega
  case rel=>exact ⟨(am),(dD),(wrap64 (dD+20)),bg,bg,H',⟨nT⟩,⟨(aG bQ)⟩,⟨jh⟩,⟨ay⟩⟩
 obtain ⟨an,x8,H⟩:=bd_ H
 have H':=m_ H
 clear H
 obtain ⟨ac,ae,dw⟩:=Kd.dJ bQ.out
 subst dw
 go_wp2_with (first|((with_reducible refine bU 132 ?_);refine bV (some 27) rfl rfl func132 aB rfl #[.slice ac a6.length ae,ah aa,ah a1,.func (.func 48) #[] #[]] rfl aW ?_;(with_reducible refine (jX.calls k1 (fun aF=>some aF=(.slice ac a6.length ae:Value).ownBlock) (.slice ac a6.length ae) a6 aa a1 a2 an w0 _ ay (Kd.rU rfl bQ.out) x8.out).mono ?_);rintro e b1 ⟨rfl,ab,hb,hkp⟩;refine ⟨_,rfl,?_⟩;obtain ⟨bQ,HK,HB⟩:=p_ (Kd.vX rfl ab (fun aF e_=>bQ.out.1 aF e_)) <| p_ (Kept.then_ (S:=(fun aF=>eG aF)) jh hkp (fun aF hs_=>(fun e_=>(bQ.out.1 aF e_.symm)) hs_)) <| a_ (hb);(try clear hb);(try clear hkp);(try clear ab)))
 (try simp only [Act.put,List.setIfInBounds_toArray,List.set_cons_zero,List.set_cons_succ])
 go_loopg [6] k1 (fun kq v6 w'=>∃ (af:List (aC)) (a5:Int),v6=ah a5∧aA (nN.l1 kq af a1 a2 a5=some r)∧aA (kq≤k1)∧aA (Kd.R bF 43 w' w0.heap.size (fun aF=>(eG aF∨w.heap.size≤aF)) (.slice ac a6.length ae) af)∧aA (Kept w w' (fun aF=>eG aF))∧aA (Below w0.heap.size w0 w'))
 case atStart=>exact ⟨(an),(20),bg,H',⟨Nat.le_refl _⟩,⟨(aG bQ)⟩,⟨jh⟩,⟨ay⟩⟩
 case round =>
 clear H'
 try clear c4;try clear aP
 obtain ⟨af,a5,rfl,HA,jv,bQ,HK,HB⟩:=hrel
 have Di:=(Kd.bZ bQ.out).1
 rw [Di] at bQ
 (try simp only [Di])
 cases gk with
 | zero=>exact absurd HA.out (by simp [nN.l1])
 | succ k2 =>
 obtain ⟨H⟩:=HA
 simp only [nN.l1] at H
 revert H;refine gI (fun ag H=>?_) fun ag H=>?_
 rotate_left
 ·obtain rfl:=cZ H
  go_wp2
  first|go_end0|((try simp only [Exit.inBlock,Exit.then]);refine bodyPost_ret (results_none rfl _ _ _) rfl ?_)
  exact ⟨b_,(by first|exact (aG bQ)|(simp only [Di];exact (aG bQ))),ay,jh⟩
 have H':=m_ H
 clear H
 go_wp2
 go_loopg [7,8] k2 (fun kq v7 v8 w'=>∃ (a7:List (aC)) (a8:Int) (a9:Int),v7=ah a8∧v8=ah a9∧aA (nN.l2 kq a7 a1 a2 a5 a8 a9=some r)∧aA (kq≤k2)∧aA (Kd.R bF 43 w' w0.heap.size (fun aF=>(eG aF∨w.heap.size≤aF)) (.slice ac af.length ae) a7)∧aA (Kept w w' (fun aF=>eG aF))∧aA (Below w0.heap.size w0 w'))
 case atStart=>exact ⟨(af),(0),(wrap64 (2 * a5)),bg,bg,H',⟨Nat.le_refl _⟩,⟨(by (try simp only [Di]);(with_reducible repeat (first|apply Kd.dR|apply Kd.dS|apply Kd.bK));exact bQ.out)⟩,⟨jh⟩,⟨ay⟩⟩
 case round =>
 clear H'
 try clear ai;try clear ag
 obtain ⟨a7,a8,a9,rfl,rfl,HA,aN,bQ,HK,HB⟩:=hrel
 have ET:=(Kd.bZ bQ.out).1
 rw [ET] at bQ
 (try simp only [ET])
 cases gk with
 | zero=>exact absurd HA.out (by simp [nN.l2])
 | succ k3 =>
 obtain ⟨H⟩:=HA
 simp only [nN.l2] at H
 revert H;refine gI (fun ao H=>?_) fun ao H=>?_
 ·obtain ⟨ap,az,H⟩:=bd_ H
  have H':=m_ H
  clear H
  go_wp2_with (first|((with_reducible refine bU 133 ?_);refine bV (some 43) rfl rfl func133 aB rfl #[.slice ac a7.length ae,ah a8,ah (wrap64 (a8+a5)),ah a9,.func (.func 48) #[] #[]] rfl aW ?_;(with_reducible refine (d_.calls k3 (fun aF=>some aF=(.slice ac a7.length ae:Value).ownBlock) (.slice ac a7.length ae) a7 a8 (wrap64 (a8+a5)) a9 a2 ap w0 _ ay (Kd.rU rfl bQ.out) az.out).mono ?_);rintro e b2 ⟨rfl,ab,hb,hkp⟩;refine ⟨_,rfl,?_⟩;obtain ⟨bQ,HK,HB⟩:=p_ (Kd.vX rfl ab (fun aF e_=>bQ.out.1 aF e_)) <| p_ (Kept.then_ (S:=(fun aF=>eG aF)) jh hkp (fun aF hs_=>(fun e_=>(bQ.out.1 aF e_.symm)) hs_)) <| a_ (hb);(try clear hb);(try clear hkp);(try clear ab)))
  (try simp only [← ET])
  go_roundg k3
  case measure=>have:=iq.out;have:=jv.out;have:=aN.out;omega
  case rel=>exact ⟨(ap),(a9),(wrap64 (a9+(wrap64 (2 * a5)))),bg,bg,H',⟨(by have:=iq.out;have:=jv.out;have:=aN.out;omega)⟩,⟨PS⟩,⟨jh⟩,⟨ay⟩⟩
 revert H;refine gI (fun aq H=>?_) fun aq H=>?_
 rotate_left
 ·have H':=m_ H
  clear H
  go_wp2
  (try simp only [← Di,← ET])
  go_roundg k3
  case measure=>have:=iq.out;have:=jv.out;have:=aN.out;omega
  case rel=>exact ⟨(a7),(wrap64 (a5 * 2)),bg,H',⟨(by have:=iq.out;have:=jv.out;have:=aN.out;omega)⟩,⟨PS⟩,⟨jh⟩,⟨ay⟩⟩
 obtain ⟨ar,b0,H⟩:=bd_ H
 have H':=m_ H
 clear H
 go_wp2_with (first|((with_reducible refine bU 133 ?_);refine bV (some 60) rfl rfl func133 aB rfl #[.slice ac a7.length ae,ah a8,ah (wrap64 (a8+a5)),ah a1,.func (.func 48) #[] #[]] rfl aW ?_;(with_reducible refine (d_.calls k3 (fun aF=>some aF=(.slice ac a7.length ae:Value).ownBlock) (.slice ac a7.length ae) a7 a8 (wrap64 (a8+a5)) a1 a2 ar w0 _ ay (Kd.rU rfl bQ.out) b0.out).mono ?_);rintro e b3 ⟨rfl,ab,hb,hkp⟩;refine ⟨_,rfl,?_⟩;obtain ⟨bQ,HK,HB⟩:=p_ (Kd.vX rfl ab (fun aF e_=>bQ.out.1 aF e_)) <| p_ (Kept.then_ (S:=(fun aF=>eG aF)) jh hkp (fun aF hs_=>(fun e_=>(bQ.out.1 aF e_.symm)) hs_)) <| a_ (hb);(try clear hb);(try clear hkp);(try clear ab)))
 (try simp only [← Di,← ET])
 go_roundg k3
 case measure=>have:=iq.out;have:=jv.out;have:=aN.out;omega
 case rel=>exact ⟨(ar),(wrap64 (a5 * 2)),bg,H',⟨(by have:=iq.out;have:=jv.out;have:=aN.out;omega)⟩,⟨PS⟩,⟨jh⟩,⟨ay⟩⟩

def DV.f (k:Nat) (l0:List (aC)) (a1:Unit):Option ((List (aC))):=(nN.f k l0 (l0.length:Int) a1).bind fun a5=>(some a5)
theorem DV.calls (k:Nat) (eG:Nat→Prop) (jk:Value) (l0:List (aC)) (a1:Unit) (r:List (aC)) (w0 w:World) (hB:Below w0.heap.size w0 w) (ho0:Kd.R bF 43 w w0.heap.size eG jk l0) (h:DV.f k l0 a1=some r) :
  Calls Tryz.prog 47 #[jk,.func (.func 48) #[] #[]] w fun e w'=>e=.returned (.tuple #[])∧Kd.R bF 43 w' w0.heap.size (fun aF=>(eG aF∨w.heap.size≤aF)) jk r∧Below w0.heap.size w0 w'∧Kept w w' (fun aF=>eG aF):=by
 have a5:=m_ (show Kd.R bF 43 w w0.heap.size (fun aF=>(eG aF∨w.heap.size≤aF)) jk l0 from Kd.bW ho0 (fun aF hk=>(.inl hk)))
 have HK:=m_ (Kept.refl w (fun aF=>eG aF))
 have HW0:=m_ hB.size
 have HB:=m_ hB
 clear hB
 unfold DV.f at h
 have H:=h
 clear h
 obtain ⟨a6,A3,H⟩:=bd_ H
 obtain rfl:=cZ H
 obtain ⟨a7,a8,aa⟩:=Kd.dJ a5.out
 subst aa
 go_enter func47,ntmps47
 go_wp2_with (first|((with_reducible refine bU 96 ?_);refine bV (some 8) rfl rfl func96 aB rfl #[.slice a7 l0.length a8,ah (l0.length:Int),.func (.func 48) #[] #[]] rfl aW ?_;(with_reducible refine (nN.calls k (fun aF=>some aF=(.slice a7 l0.length a8:Value).ownBlock) (.slice a7 l0.length a8) l0 (l0.length:Int) a1 a6 w0 _ ay (Kd.rU rfl a5.out) A3.out).mono ?_);rintro e w5 ⟨rfl,a9,hb,hkp⟩;refine ⟨_,rfl,?_⟩;obtain ⟨a5,HK,HB⟩:=p_ (Kd.vX rfl a9 (fun aF e_=>a5.out.1 aF e_)) <| p_ (Kept.then_ (S:=(fun aF=>eG aF)) jh hkp (fun aF hs_=>(fun e_=>(a5.out.1 aF e_.symm)) hs_)) <| a_ (hb);(try clear hb);(try clear hkp);(try clear a9)))
 first|go_end0|((try simp only [Exit.inBlock,Exit.then]);refine bodyPost_ret (results_none rfl _ _ _) rfl ?_)
 exact ⟨b_,(aG a5),ay,jh⟩

def l7.l0:Nat→ByteArray→ByteArray→Int→Int→List (aC)→Option ((List (aC)))
 | 0,_,_,_,_,_=>none
 | k+1,x1,x2,a9,a6,a5=>if a6 < a9 then (if 0≤a6 then (if a6 < (a5.length:Int) then (if ((au a5 a6).f0).toList=x1.toList then (if 0≤(x1.size:Int) then (if (x1.size:Int)≤(((au a5 a6).f0).size:Int) then ((some (((au a5 a6).f0).extract ((x1.size:Int):Int).toNat ((au a5 a6).f0).size:ByteArray)).bind fun a7=>(if x2.size+a7.size≤9223372036854775807 then ((some (x2++a7:ByteArray)).bind fun aa=>(l7.l0 k x1 x2 a9 (wrap64 (a6+1)) (a5.set (a6:Int).toNat (⟨aa,(au a5 a6).f1,(au a5 a6).f2⟩:aC)))) else (none))) else (none)) else (none)) else ((Dp.f k ((au a5 a6).f0) x1).bind fun ab=>(if ab=true then (if 0≤(x1.size:Int) then (if (x1.size:Int)≤(((au a5 a6).f0).size:Int) then ((some (((au a5 a6).f0).extract ((x1.size:Int):Int).toNat ((au a5 a6).f0).size:ByteArray)).bind fun a8=>(if x2.size+a8.size≤9223372036854775807 then ((some (x2++a8:ByteArray)).bind fun ac=>(l7.l0 k x1 x2 a9 (wrap64 (a6+1)) (a5.set (a6:Int).toNat (⟨ac,(au a5 a6).f1,(au a5 a6).f2⟩:aC)))) else (none))) else (none)) else (none)) else (l7.l0 k x1 x2 a9 (wrap64 (a6+1)) a5)))) else (none)) else (none)) else ((DV.f k a5 ()).bind fun ae=>(some ae))
def l7.f (k:Nat) (a6:List (aC)) (a1:ByteArray) (a2:ByteArray):Option ((List (aC))):=(E5.f a6).bind fun a5=>(l7.l0 k a1 a2 (a5.length:Int) 0 a5)
def l7.T6:Bool × List (List Nat × List Nat):=(true,[([],[]),([0],[0]),([],[]),([],[]),([],[]),([4],[4]),([],[]),([6],[6]),([5,7],[5,7]),([3,8],[3,8]),([1,2,0,1,2,3,4,5,6,7,8,9],[1,2]),([10,0,1,2,3,4,5,6,7,8,9],[10]),([11,9,0,1,2,3,4,5,6,7,8,9],[9,11])])
def l7.B6:List Nat:=[0,1,0,0,0,16,0,64,240,504,1023,2047,4095]
theorem l7.tab6:kZ .any (opsOf Tryz.f9 6)=l7.T6:=by kernel_rfl
theorem l7.Bc:sF l7.T6.2 l7.B6=true:=by kernel_rfl
theorem l7.calls (k:Nat) (az:Option Addr) (b0:Nat) (aH:List (aC)) (a1:ByteArray) (a2:ByteArray) (r:List (aC)) (w:World) (oO:jH w) (bz:Kd.C bF w az aH.length aH) (ca:aH.length≤b0) (h:l7.f k aH a1 a2=some r) :
  Calls Tryz.prog 9 #[.agg #[.slice az aH.length b0],.string a1,.string a2] w fun e w'=>∃ gQ:Value,e=.returned (.agg #[gQ])∧Kd.R bF 43 w' w.heap.size (fun _=>True) gQ r∧Below w.heap.size w w':=by
 have oq:=underlying28
 have rF:=underlying43
 have lF:=m_ bz
 have d1:=m_ ca
 clear bz ca
 have HD:=m_ oO
 clear oO
 have HB:=m_ (Below.refl w.heap.size w)
 unfold l7.f at h
 have H:=h
 clear h
 obtain ⟨aN,A4,H⟩:=bd_ H
 have H':=m_ H
 clear H
 go_enter func9,ntmps9
 go_wp2_with (first|((with_reducible refine dG 3 ?_);refine dU 3 (cs:=#[.slice az aH.length b0]) 28 ?_;intro bi hg w5 hbox hb;obtain ⟨HB,nX,ee,bj⟩:=kE ay hb hbox hg;clear hb hbox hg)|((with_reducible refine dG 6 ?_);refine dU 6 (cs:=#[.slice none 0 0]) 28 ?_;intro b7 hg w6 hbox hb;obtain ⟨nX,HB,oC,ef,bl,al,am⟩:=qj (aj nX) ay hb hbox hg;clear hb hbox hg;obtain ⟨an,ao⟩:=iJ al am;have wH:=cu nX.out)|((with_reducible refine bU 45 ?_);refine bV (some 11) rfl rfl func45 aB rfl #[.agg #[.slice az aH.length b0]] rfl aW ?_;(with_reducible refine (E5.calls _ _ aH aN _ sD d1.out A4.out).mono ?_);rintro e w9 ⟨ajM,rfl,ho0,hb⟩;refine ⟨_,rfl,?_⟩;obtain ⟨ap,nX,oC,HB⟩:=p_ (Kd.dK ho0 (dO ay)) <| uF (aj nX) (aj oC) ay hb;(try clear hb);(try clear ho0))|((with_reducible refine dG 7 ?_);refine dU 7 (cs:=#[.slice none 0 0]) 28 ?_;intro aq hg fl hbox hb;obtain ⟨ap,nX,oC,HB,oD,eh,bm,bd,be,fF,dM⟩:=p_ (Kd.bn (aG ap) hb) <| wu (aj nX) (aj oC) ay hb hbox hg;clear hb hbox hg;obtain ⟨bh,aT,dv⟩:=Kd.dJ ap.out;subst dv;obtain ⟨fK,bo,bp,bq⟩:=jE be bd dM fF;have Qi:=cu oD.out))
 (try simp only [Act.put,List.setIfInBounds_toArray,List.set_cons_zero,List.set_cons_succ])
 go_loopg [15] k (fun kq v15 w'=>∃ (a6:Int) (a5:List (aC)),v15=ah a6∧aA (l7.l0 kq a1 a2 (aN.length:Int) a6 a5=some r)∧aA (kq≤k)∧aA (Kd.R bF 43 w' w.heap.size (fun _=>True) (.slice bh aN.length aT) a5)∧aA (w'.heap[bi]?=some (.cells #[(.slice az aH.length b0)] 28))∧aA (w'.heap[b7]?=some (.cells #[(.slice none 0 0)] 28))∧aA (w'.heap[aq]?=some (.cells #[(.slice bh aN.length aT)] 28))∧aA (Below w.heap.size w w'))
 case atStart=>exact ⟨(0),(aN),bg,H',⟨Nat.le_refl _⟩,⟨(by (with_reducible repeat (first|apply Kd.dR|apply Kd.dS|apply Kd.bK));exact Kd.bW (aU (Kd.dL ap.out oD.out (by decide))) (fun _ hk=>trivial))⟩,⟨bH⟩,⟨bH⟩,⟨bH⟩,⟨ay⟩⟩
 case round =>
 clear H'
 try clear Qi;try clear wH;try clear Qi;try clear wH
 obtain ⟨a6,a5,rfl,HA,iq,kQ,nX,oC,oD,HB⟩:=hrel
 have sO:=(Kd.bZ kQ.out).1
 rw [sO] at kQ
 (try simp only [sO])
 (try simp only [sO] at nX)
 (try simp only [sO] at oC)
 (try simp only [sO] at oD)
 cases gk with
 | zero=>exact absurd HA.out (by simp [l7.l0])
 | succ k1 =>
 obtain ⟨H⟩:=HA
 simp only [l7.l0] at H
 revert H;refine fJ (fun d0 H=>?_) fun d0 H=>?_
 rotate_left
 ·have br:=qE d0
  (try simp only [sO] at br)
  clear d0
  obtain ⟨lZ,f5,H⟩:=bd_ H
  obtain rfl:=cZ H
  have adp:=cu oD.out
  go_wp2_with (first|((with_reducible refine bU 47 ?_);refine bV (some 45) rfl rfl func47 aB rfl #[.slice bh a5.length aT,.func (.func 48) #[] #[]] rfl aW ?_;(with_reducible refine (DV.calls k1 (fun aF=>some aF=(.slice bh a5.length aT:Value).ownBlock) (.slice bh a5.length aT) a5 () lZ w _ ?kG (Kd.rU rfl kQ.out) f5.out).mono ?_);(case kG=>repeat (first|(with_reducible first|exact HB.out|apply ny|apply qm|apply k_|refine iL ?_ bj.out|refine iL ?_ bl.out|refine iL ?_ bm.out)|exact HB.out));rintro e fp ⟨rfl,ei,hb,hkp⟩;refine ⟨_,rfl,?_⟩;obtain ⟨kQ,nX,oC,oD,HB⟩:=p_ (Kd.vX rfl ei (fun aF e_=>kQ.out.1 aF e_)) <| p_ (vF (aj nX) hkp (fun hs_=>(fun e_=>(Kd.iw kQ.out nX.out (by decide)) e_) hs_)) <| p_ (vF (aj oC) hkp (fun hs_=>(fun e_=>(Kd.iw kQ.out oC.out (by decide)) e_) hs_)) <| p_ (vF (aj oD) hkp (fun hs_=>(fun e_=>(Kd.iw kQ.out oD.out (by decide)) e_) hs_)) <| a_ (hb);(try clear hb);(try clear hkp);(try clear ei);have adr:=cu oD.out;obtain ⟨ao,an⟩:=iJ am al;have akL:=cu oC.out))
  refine bodyPost_ret (results_cell_row rfl _ _ b7 28 #[.slice bh a5.length aT] (0,0) _ rfl bH underlying28 rfl aB) rfl ?_
  exact ⟨_,b_,(by (with_reducible repeat (first|apply Kd.dR|apply Kd.dS|apply Kd.bK));exact Kd.bW (aU (Kd.dL kQ.out oC.out (by decide))) (fun _ hk=>trivial)),ay⟩
 have br:=lC d0
 (try simp only [sO] at br)
 clear d0
 obtain ⟨ek,H⟩:=fU H
 obtain ⟨em,H⟩:=fU H
 revert H;refine fJ (fun ck H=>?_) fun ck H=>?_
 ·have d2:=gZ ck
  have d3:=g_ ck
  clear ck
  obtain ⟨en,eo,H⟩:=kT H
  obtain ⟨ep,eq,H⟩:=kT H
  obtain ⟨bw,cc⟩:∃ y_:ByteArray,(((au a5 a6).f0).extract ((a1.size:Int):Int).toNat ((au a5 a6).f0).size)=y_:=⟨_,rfl⟩
  replace H:(if a2.size+bw.size≤9223372036854775807 then ((some (a2++bw:ByteArray)).bind fun b1=>(l7.l0 k1 a1 a2 (aN.length:Int) (wrap64 (a6+1)) (a5.set (a6:Int).toNat (⟨b1,(au a5 a6).f1,(au a5 a6).f2⟩:aC)))) else (none))=some r:=by rw [← cc];exact (Option.bind_some _ _).symm.trans H
  (try simp only [Int.toNat_natCast] at cc)
  obtain ⟨dr,H⟩:=lG H
  have er:=eq_true dr
  have es:=lC dr
  try have et:(9223372036854775807 < a2.size+bw.size)=False:=eq_false (Nat.not_lt.2 dr)
  clear dr
  obtain ⟨b1,cd⟩:∃ y_:ByteArray,(a2++bw)=y_:=⟨_,rfl⟩
  replace H:(l7.l0 k1 a1 a2 (aN.length:Int) (wrap64 (a6+1)) (a5.set (a6:Int).toNat (⟨b1,(au a5 a6).f1,(au a5 a6).f2⟩:aC)))=some r:=by rw [← cd];exact (Option.bind_some _ _).symm.trans H
  (try simp only [Int.toNat_natCast] at cd)
  obtain ⟨d4,bs⟩:∃ y_:List (aC),y_=(a5.set (a6:Int).toNat (⟨b1,(au a5 a6).f1,(au a5 a6).f2⟩:aC)):=⟨_,rfl⟩
  rw [← bs] at H
  have d5:=m_ bs
  clear bs
  have H':=m_ H
  clear H
  have b2:0≤(a6:Int):=bC bD
  have b3:a6 < (a5.length:Int):=bC bD
  obtain ⟨b8,cl,ac,ae,af⟩:=jP (Kd.bZ kQ.out).2.2 a6 b2 b3
  cases cl
  replace b2:=eq_true b2
  replace b3:=eq_true b3
  try go_wp2_with (first|((with_reducible refine dG 9 ?_);refine dU 9 (cs:=#[.string (⟨#[]⟩:ByteArray),.bool false,.string (⟨#[]⟩:ByteArray)]) 43 ?_;intro a7 hg cm hbox hb;obtain ⟨kQ,nX,oC,oD,HB,a8,d6,bu,a9,ag,aa,aP,ab,ai⟩:=p_ (Kd.bn (Kd.Mc (aG kQ) a7 (Nat.le_of_eq hg.symm)) hb) <| yF (aj nX) (aj oC) (aj oD) ay hb hbox hg;clear hb hbox hg;obtain ⟨ar,bP,av,aw,ax,dw⟩:=kL ag a9 aP aa ai ab;have f7:=nP a8.out))
  have gX:aA (Kd.R bF 43 (((cm.setCell ⟨a7,0,none⟩ (.string ((au a5 a6).f0))).setCell ⟨a7,1,none⟩ (.bool ((au a5 a6).f1))).setCell ⟨a7,2,none⟩ (.string ((au a5 a6).f2))) w.heap.size (fun aF=>aF≠a7) (.slice (some b8) a5.length aT) a5):=⟨(by (with_reducible repeat (first|apply Kd.dR|apply Kd.dS|apply Kd.bK));exact Kd.bW (aU (aU (aU (Kd.bW kQ.out (fun aF hk=>(⟨hk,hk.2⟩:_∧aF≠a7)))))) (fun _ hk=>hk.1.2))⟩
  have lN:aA ((((cm.setCell ⟨a7,0,none⟩ (.string ((au a5 a6).f0))).setCell ⟨a7,1,none⟩ (.bool ((au a5 a6).f1))).setCell ⟨a7,2,none⟩ (.string ((au a5 a6).f2))).heap[bi]?=some (.cells #[.slice az aH.length b0] 28)):=⟨bH⟩
  have lQ:aA ((((cm.setCell ⟨a7,0,none⟩ (.string ((au a5 a6).f0))).setCell ⟨a7,1,none⟩ (.bool ((au a5 a6).f1))).setCell ⟨a7,2,none⟩ (.string ((au a5 a6).f2))).heap[b7]?=some (.cells #[.slice none 0 0] 28)):=⟨bH⟩
  have lS:aA ((((cm.setCell ⟨a7,0,none⟩ (.string ((au a5 a6).f0))).setCell ⟨a7,1,none⟩ (.bool ((au a5 a6).f1))).setCell ⟨a7,2,none⟩ (.string ((au a5 a6).f2))).heap[aq]?=some (.cells #[.slice (some b8) a5.length aT] 28)):=⟨bH⟩
  have lT:aA ((((cm.setCell ⟨a7,0,none⟩ (.string ((au a5 a6).f0))).setCell ⟨a7,1,none⟩ (.bool ((au a5 a6).f1))).setCell ⟨a7,2,none⟩ (.string ((au a5 a6).f2))).heap[a7]?=some (.cells #[.string ((au a5 a6).f0),.bool ((au a5 a6).f1),.string ((au a5 a6).f2)] 43)):=⟨bH⟩
  have mV:aA (Below w.heap.size w (((cm.setCell ⟨a7,0,none⟩ (.string ((au a5 a6).f0))).setCell ⟨a7,1,none⟩ (.bool ((au a5 a6).f1))).setCell ⟨a7,2,none⟩ (.string ((au a5 a6).f2)))):=⟨ay⟩
  (try clear kQ)
  (try clear nX)
  (try clear oC)
  (try clear oD)
  (try clear a8)
  (try clear HB)
  generalize (((cm.setCell ⟨a7,0,none⟩ (.string ((au a5 a6).f0))).setCell ⟨a7,1,none⟩ (.bool ((au a5 a6).f1))).setCell ⟨a7,2,none⟩ (.string ((au a5 a6).f2)))=fa at gX lN lQ lS lT mV ⊢
  have kQ:=gX
  have nX:=lN
  have oC:=lQ
  have oD:=lS
  have a8:=lT
  have HB:=mV
  clear gX lN lQ lS lT mV
  obtain ⟨kQ,nX,oC,oD,a8,HB⟩:=p_ (Kd.bK kQ.out) <| uG nX oC oD a8 HB
  have dz:0≤(a6:Int):=bC bD
  have e0:(a6:Int) < ((a5.length:Int):Int):=bC bD
  obtain ⟨b4,fb,d7,d8,e3,fc,d9⟩:=Kd.zf kQ.out (by omega)
  (first|cases d7|(injection d7 with lK vH vG;(first|subst lK|(injection lK with lK;subst lK));subst vG;clear vH))
  have e4:=m_ d8
  have e5:=m_ d9
  clear d8 e3 d9
  (first|simp only [add_plain] at ac|skip)
  (first|simp only [add_plain] at ae|skip)
  (first|simp only [add_plain] at af|skip)
  obtain ⟨fd,da,db,b9,ba⟩:=Kd.oW kQ.out z43 (a6:Int) dz e0
  obtain rfl:=o9 db
  have cn:World.cell? _ ⟨b4,(a6:Int).toNat * 3,none⟩=some (.string ((au a5 a6).f0)):=b9 0 _ rfl
  have co:World.cell? _ ⟨b4,(a6:Int).toNat * 3+1,none⟩=some (.bool ((au a5 a6).f1)):=b9 1 _ rfl
  have cp:World.cell? _ ⟨b4,(a6:Int).toNat * 3+2,none⟩=some (.string ((au a5 a6).f2)):=b9 2 _ rfl
  have cq:World.frozen? _ ⟨b4,(a6:Int).toNat * 3,none⟩=false:=ba 0
  have cr:World.frozen? _ ⟨b4,(a6:Int).toNat * 3+1,none⟩=false:=ba 1
  have ct:World.frozen? _ ⟨b4,(a6:Int).toNat * 3+2,none⟩=false:=ba 2
  clear da b9 ba db
  replace dz:=eq_true dz
  replace e0:=eq_true e0
  obtain ⟨fe,ce,dd,cf,de⟩:=Kd.oW kQ.out z43 (a6:Int) (bC bD) (by have dV:(a6:Int) < ((a5.length:Int):Int):=bC bD;first|exact dV|(have e_:=(Kd.bZ kQ.out).1;omega)|simpa using dV)
  obtain rfl:=o9 dd
  have BU:=(Kd.yu kQ.out (a6:Int) (bC bD) (by have dV:(a6:Int) < ((a5.length:Int):Int):=bC bD;first|exact dV|(have e_:=(Kd.bZ kQ.out).1;omega)|simpa using dV) (seg:=[.string b1]) (j:=0) ce cf (show 1≤3 from by decide) (x':=(⟨b1,(au a5 a6).f1,(au a5 a6).f2⟩:aC)) (qX _ _ _ (⟨b1,(au a5 a6).f1,(au a5 a6).f2⟩:aC) ) (fun _ hk=>hk)).1
  rw [← d5.out] at BU
  have F9:=m_ BU
  clear ce cf de dd BU
  refine iH (n:=13) (S:=fun w'=>lD w' aq (.slice (some ⟨b4,0,none⟩) a5.length aT) <| zH w' a7 (.string ((au a5 a6).f0)) (.bool ((au a5 a6).f1)) (.string ((au a5 a6).f2))) (ds:=[12]) Jq aB rfl rfl ⟨(aO oD.out 0).trans rfl,qC a8.out⟩ (fun hH=>?_);refine jC l7.tab6 l7.Bc (fun aS gJ=>?_)
  generalize fa.drew=fq at kQ nX oC oD a8 HB e5 F9 cq cr ct cn co cp ac ae af hH ⊢
  refine aI 0 ?_
  refine aI 2 ?_
  refine aI 3 ?_
  refine aI 4 ?_
  refine aI 6 ?_
  refine aI 7 ?_
  refine fV 1 hH ?_
  refine fV 5 hH ?_
  refine aI 8 ?_
  refine aI 9 ?_
  refine aI 10 ?_
  refine aI 11 ?_
  refine wz 12 (fun K hK=>?_)
  refine jr (w1:=?_) (by rfl) rfl ?_ ?_
  rotate_left
  ·go_simp
   rfl
  refine hK.out _ _ ?_
  clear hK K
  refine iF (jB aS.out aB) ?_
  try go_wp2
  (try simp only [← sO])
  go_roundg k1
  case measure=>have:=iq.out;omega
  case rel=>exact ⟨(wrap64 (a6+1)),(d4),bg,H',⟨nT⟩,⟨(by (try simp only [sO]);(with_reducible repeat (first|apply Kd.dR|apply Kd.dS|apply Kd.bK));exact Kd.bW F9.out (fun _ hk=>trivial))⟩,⟨WO⟩,⟨WM⟩,⟨WL⟩,⟨(by repeat (first|(with_reducible first|exact HB.out|apply ny|apply qm|apply k_|refine iL ?_ e4.out|refine iL ?_ bj.out|refine iL ?_ bl.out|refine iL ?_ bm.out|refine iL ?_ bu.out)|exact HB.out))⟩⟩
 have d2:=gU ck
 have d3:=gV ck
 obtain ⟨df,ff,H⟩:=bd_ H
 have dg:=m_ H
 clear H
 have b2:0≤(a6:Int):=bC bD
 have b3:a6 < (a5.length:Int):=bC bD
 obtain ⟨b8,cl,ac,ae,af⟩:=jP (Kd.bZ kQ.out).2.2 a6 b2 b3
 cases cl
 replace b2:=eq_true b2
 replace b3:=eq_true b3
 go_upto_if 29 with (first|((with_reducible refine dG 9 ?_);refine dU 9 (cs:=#[.string (⟨#[]⟩:ByteArray),.bool false,.string (⟨#[]⟩:ByteArray)]) 43 ?_;intro a7 hg fs hbox hb;obtain ⟨kQ,nX,oC,oD,HB,a8,d6,bu,a9,ag,aa,aP,ab,ai⟩:=p_ (Kd.bn (Kd.Mc (aG kQ) a7 (Nat.le_of_eq hg.symm)) hb) <| yF (aj nX) (aj oC) (aj oD) ay hb hbox hg;clear hb hbox hg;obtain ⟨ar,bP,av,aw,ax,dw⟩:=kL ag a9 aP aa ai ab;have e6:=nP a8.out)|(go_at_call 46;(with_reducible refine (Dp.calls k1 ((au a5 a6).f0) a1 df _ (jH.below HD.out ay) ff.out).mono ?_);rintro e fg ⟨rfl,hb⟩;have eP:=p_ (Kd.bn (by (with_reducible repeat (first|apply Kd.dR|apply Kd.dS|apply Kd.bK));exact (Kd.bW (aU (aU (aU (Kd.bW kQ.out (fun aF hk=>(⟨hk,hk.2⟩:_∧aF≠a7)))))) (fun _ dV=>dV.1))) hb) <| p_ (bG (g:=bi) (o:=.cells #[.slice az aH.length b0] 28) (lM nX.out a9.out) hb) <| p_ (bG (g:=b7) (o:=.cells #[.slice none 0 0] 28) (lM oC.out aa.out) hb) <| p_ (bG (g:=aq) (o:=.cells #[.slice (some b8) a5.length aT] 28) (lM oD.out ab.out) hb) <| p_ (bG (g:=a7) (o:=.cells #[.string ((au a5 a6).f0),.bool ((au a5 a6).f1),.string ((au a5 a6).f2)] 43) (wB a8.out) hb) <| a_ (dI ay hb);clear kQ nX oC oD a8 HB;obtain ⟨kQ,nX,oC,oD,a8,HB⟩:=eP;(try clear hb);(try clear hk)))
 (try simp only [Act.put,List.setIfInBounds_toArray,List.set_cons_zero,List.set_cons_succ])
 (try clear an bo bP ao bq aw fK bp dw ar av ax)
 (try clear e6)
 obtain ⟨H⟩:=dg
 by_cases dt:df=true
 rotate_left
 ·replace dt:=Bool.eq_false_iff.mpr dt
  subst dt
  rw [if_neg iO] at H
  have H':=m_ H
  clear H
  go_wp2
  (try simp only [← sO])
  go_roundg k1
  case measure=>have:=iq.out;omega
  case rel=>exact ⟨(wrap64 (a6+1)),(a5),bg,H',⟨nT⟩,⟨(by (try simp only [sO]);(with_reducible repeat (first|apply Kd.dR|apply Kd.dS|apply Kd.bK));exact Kd.bW kQ.out (fun _ hk=>trivial))⟩,⟨(by (try simp only [sO]);(with_reducible repeat (first|refine kD ?_ _|refine gW ?_|refine jG ?_ _));exact nX.out)⟩,⟨(by (try simp only [sO]);(with_reducible repeat (first|refine kD ?_ _|refine gW ?_|refine jG ?_ _));exact oC.out)⟩,⟨(by (try simp only [sO]);(with_reducible repeat (first|refine kD ?_ _|refine gW ?_|refine jG ?_ _));exact oD.out)⟩,⟨ay⟩⟩
 subst dt
 rw [if_pos rfl] at H
 obtain ⟨rV,ev,H⟩:=kT H
 obtain ⟨ew,ex,H⟩:=kT H
 obtain ⟨bx,cg⟩:∃ y_:ByteArray,(((au a5 a6).f0).extract ((a1.size:Int):Int).toNat ((au a5 a6).f0).size)=y_:=⟨_,rfl⟩
 replace H:(if a2.size+bx.size≤9223372036854775807 then ((some (a2++bx:ByteArray)).bind fun b5=>(l7.l0 k1 a1 a2 (aN.length:Int) (wrap64 (a6+1)) (a5.set (a6:Int).toNat (⟨b5,(au a5 a6).f1,(au a5 a6).f2⟩:aC)))) else (none))=some r:=by rw [← cg];exact (Option.bind_some _ _).symm.trans H
 (try simp only [Int.toNat_natCast] at cg)
 obtain ⟨du,H⟩:=lG H
 have ey:=eq_true du
 have ez:=lC du
 try have f4:(9223372036854775807 < a2.size+bx.size)=False:=eq_false (Nat.not_lt.2 du)
 clear du
 obtain ⟨b5,ch⟩:∃ y_:ByteArray,(a2++bx)=y_:=⟨_,rfl⟩
 replace H:(l7.l0 k1 a1 a2 (aN.length:Int) (wrap64 (a6+1)) (a5.set (a6:Int).toNat (⟨b5,(au a5 a6).f1,(au a5 a6).f2⟩:aC)))=some r:=by rw [← ch];exact (Option.bind_some _ _).symm.trans H
 (try simp only [Int.toNat_natCast] at ch)
 obtain ⟨lg,bv⟩:∃ y_:List (aC),y_=(a5.set (a6:Int).toNat (⟨b5,(au a5 a6).f1,(au a5 a6).f2⟩:aC)):=⟨_,rfl⟩
 rw [← bv] at H
 have di:=m_ bv
 clear bv
 have H':=m_ H
 clear H
 try go_wp2
 obtain ⟨kQ,nX,oC,oD,a8,HB⟩:=p_ (Kd.bK kQ.out) <| uG nX oC oD a8 HB
 have e9:0≤(a6:Int):=bC bD
 have ea:(a6:Int) < ((a5.length:Int):Int):=bC bD
 obtain ⟨b6,fh,dj,dk,eb,fi,dl⟩:=Kd.zf kQ.out (by omega)
 (first|cases dj|(injection dj with lK vH vG;(first|subst lK|(injection lK with lK;subst lK));subst vG;clear vH))
 have ec:=m_ dk
 have ed:=m_ dl
 clear dk eb dl
 (first|simp only [add_plain] at ac|skip)
 (first|simp only [add_plain] at ae|skip)
 (first|simp only [add_plain] at af|skip)
 obtain ⟨fj,dm,kM,bb,bc⟩:=Kd.oW kQ.out z43 (a6:Int) e9 ea
 obtain rfl:=o9 kM
 have jg:World.cell? _ ⟨b6,(a6:Int).toNat * 3,none⟩=some (.string ((au a5 a6).f0)):=bb 0 _ rfl
 have cv:World.cell? _ ⟨b6,(a6:Int).toNat * 3+1,none⟩=some (.bool ((au a5 a6).f1)):=bb 1 _ rfl
 have cw:World.cell? _ ⟨b6,(a6:Int).toNat * 3+2,none⟩=some (.string ((au a5 a6).f2)):=bb 2 _ rfl
 have cx:World.frozen? _ ⟨b6,(a6:Int).toNat * 3,none⟩=false:=bc 0
 have cy:World.frozen? _ ⟨b6,(a6:Int).toNat * 3+1,none⟩=false:=bc 1
 have cz:World.frozen? _ ⟨b6,(a6:Int).toNat * 3+2,none⟩=false:=bc 2
 clear dm bb bc kM
 replace e9:=eq_true e9
 replace ea:=eq_true ea
 obtain ⟨fk,ci,dp,cj,dq⟩:=Kd.oW kQ.out z43 (a6:Int) (bC bD) (by have dV:(a6:Int) < ((a5.length:Int):Int):=bC bD;first|exact dV|(have e_:=(Kd.bZ kQ.out).1;omega)|simpa using dV)
 obtain rfl:=o9 dp
 have LU:=(Kd.yu kQ.out (a6:Int) (bC bD) (by have dV:(a6:Int) < ((a5.length:Int):Int):=bC bD;first|exact dV|(have e_:=(Kd.bZ kQ.out).1;omega)|simpa using dV) (seg:=[.string b5]) (j:=0) ci cj (show 1≤3 from by decide) (x':=(⟨b5,(au a5 a6).f1,(au a5 a6).f2⟩:aC)) (qX _ _ _ (⟨b5,(au a5 a6).f1,(au a5 a6).f2⟩:aC) ) (fun _ hk=>hk)).1
 rw [← di.out] at LU
 have QA:=m_ LU
 clear ci cj dq dp LU
 refine iH (n:=13) (S:=fun w'=>lD w' aq (.slice (some ⟨b6,0,none⟩) a5.length aT) <| zH w' a7 (.string ((au a5 a6).f0)) (.bool ((au a5 a6).f1)) (.string ((au a5 a6).f2))) (ds:=[12]) Jq aB rfl rfl ⟨(aO oD.out 0).trans rfl,qC a8.out⟩ (fun hH=>?_);refine jC l7.tab6 l7.Bc (fun aS gJ=>?_)
 generalize fg.drew=ft at kQ nX oC oD a8 HB ed QA cx cy cz jg cv cw ac ae af hH ⊢
 refine aI 0 ?_
 refine aI 2 ?_
 refine aI 3 ?_
 refine aI 4 ?_
 refine aI 6 ?_
 refine aI 7 ?_
 refine fV 1 hH ?_
 refine fV 5 hH ?_
 refine aI 8 ?_
 refine aI 9 ?_
 refine aI 10 ?_
 refine aI 11 ?_
 refine wz 12 (fun K hK=>?_)
 refine jr (w1:=?_) (by rfl) rfl ?_ ?_
 rotate_left
 ·go_simp
  rfl
 refine hK.out _ _ ?_
 clear hK K
 refine iF (jB aS.out aB) ?_
 try go_wp2
 (try simp only [← sO])
 go_roundg k1
 case measure=>have:=iq.out;omega
 case rel=>exact ⟨(wrap64 (a6+1)),(lg),bg,H',⟨nT⟩,⟨(by (try simp only [sO]);(with_reducible repeat (first|apply Kd.dR|apply Kd.dS|apply Kd.bK));exact Kd.bW QA.out (fun _ hk=>trivial))⟩,⟨WO⟩,⟨WM⟩,⟨WL⟩,⟨(by repeat (first|(with_reducible first|exact HB.out|apply ny|apply qm|apply k_|refine iL ?_ ec.out|refine iL ?_ bj.out|refine iL ?_ bl.out|refine iL ?_ bm.out|refine iL ?_ bu.out)|exact HB.out))⟩⟩

attribute [local go_sem high] Zo
def um.l0:Nat→Int→List (aC)→List (aC)→Option (Bool)
 | 0,_,_,_=>none
 | k+1,x5,a5,a6=>if x5 < (a5.length:Int) then (if 0≤x5 then (if x5 < (a6.length:Int) then (if (!((((au a5 x5).f0).toList) == (((au a6 x5).f0).toList)) || (!(((au a5 x5).f1) == ((au a6 x5).f1)) || (!((((au a5 x5).f2).toList) == (((au a6 x5).f2).toList)))))=true then (some false) else (um.l0 k (wrap64 (x5+1)) a5 a6)) else (none)) else (none)) else (some true)
def um.f (k:Nat) (a5:List (aC)) (a6:List (aC)):Option (Bool):=if (a5.length:Int)=(a6.length:Int) then (um.l0 k 0 a5 a6) else (some false)
theorem um.calls (k:Nat) (al:Option Addr) (am:Nat) (aH:List (aC)) (an:Option Addr) (ao:Nat) (aK:List (aC)) (r:Bool) (w:World) (bP:Kd.C bF w al aH.length aH) (av:aH.length≤am) (aw:Kd.C bF w an aK.length aK) (ax:aK.length≤ao) (h:um.f k aH aK=some r) :
  Calls Tryz.prog 10 #[.agg #[.slice al aH.length am],.agg #[.slice an aK.length ao]] w fun e w'=>e=.returned (.bool r)∧Below w.heap.size w w':=by
 have oq:=underlying28
 have rF:=underlying43
 have lF:=m_ bP
 have dM:=m_ av
 clear bP av
 have rC:=m_ aw
 have bh:=m_ ax
 clear aw ax
 have HB:=m_ (Below.refl w.heap.size w)
 unfold um.f at h
 have H:=h
 clear h
 have bi:=m_ H
 clear H
 go_enter func10,ntmps10
 go_upto_if 12 with (first|((with_reducible refine dG 2 ?_);refine dU 2 (cs:=#[.slice al aH.length am]) 28 ?_;intro aq hg w4 hbox hb;obtain ⟨HB,a5,dw,az⟩:=kE ay hb hbox hg;clear hb hbox hg)|((with_reducible refine dG 3 ?_);refine dU 3 (cs:=#[.slice an aK.length ao]) 28 ?_;intro ar hg w5 hbox hb;obtain ⟨a5,HB,a9,b0,b1,a7,a8⟩:=qj (aj a5) ay hb hbox hg;clear hb hbox hg;obtain ⟨b8,b9⟩:=iJ a7 a8;have Ed:=cu a5.out;have wH:=cu a9.out))
 repeat (go_quiet (first|((with_reducible refine dG 2 ?_);refine dU 2 (cs:=#[.slice al aH.length am]) 28 ?_;intro aq hg w4 hbox hb;obtain ⟨HB,a5,dw,az⟩:=kE ay hb hbox hg;clear hb hbox hg)|((with_reducible refine dG 3 ?_);refine dU 3 (cs:=#[.slice an aK.length ao]) 28 ?_;intro ar hg w5 hbox hb;obtain ⟨a5,HB,a9,b0,b1,a7,a8⟩:=qj (aj a5) ay hb hbox hg;clear hb hbox hg;obtain ⟨b8,b9⟩:=iJ a7 a8;have Ed:=cu a5.out;have wH:=cu a9.out));go_upto_if 12 with (first|((with_reducible refine dG 2 ?_);refine dU 2 (cs:=#[.slice al aH.length am]) 28 ?_;intro aq hg w4 hbox hb;obtain ⟨HB,a5,dw,az⟩:=kE ay hb hbox hg;clear hb hbox hg)|((with_reducible refine dG 3 ?_);refine dU 3 (cs:=#[.slice an aK.length ao]) 28 ?_;intro ar hg w5 hbox hb;obtain ⟨a5,HB,a9,b0,b1,a7,a8⟩:=qj (aj a5) ay hb hbox hg;clear hb hbox hg;obtain ⟨b8,b9⟩:=iJ a7 a8;have Ed:=cu a5.out;have wH:=cu a9.out)))
 (try simp only [Act.put,List.setIfInBounds_toArray,List.set_cons_zero,List.set_cons_succ])
 (try clear Ed)
 (try clear wH)
 (try clear Ed)
 (try clear wH)
 obtain ⟨H⟩:=bi
 revert H;refine fJ (fun c9 H=>?_) fun c9 H=>?_
 rotate_left
 ·have ap:=gU c9
  have ba:=gV c9
  have bb:(aH.length == aK.length)=false:=by first|simpa using c9|(simp at c9 ⊢;omega)
  try simp only [bI,bY,ap]
  obtain rfl:=cZ H
  go_wp2
  repeat (go_quiet (fail);try go_wp2)
  go_ret
  exact ⟨b_,ay⟩
 have ap:=gZ c9
 have ba:=g_ c9
 have bb:(aH.length == aK.length)=true:=by first|simpa using c9|(simp at c9 ⊢;omega)
 clear c9
 try simp only [bI,bY,ap]
 have H':=m_ H
 clear H
 go_wp2
 repeat (go_quiet (fail);try go_wp2)
 go_loopg [5] k (fun kq v5 w'=>∃ (a6:Int),v5=ah a6∧aA (um.l0 kq a6 aH aK=some r)∧aA (kq≤k)∧aA (w'.heap[aq]?=some (.cells #[(.slice al aH.length am)] 28))∧aA (w'.heap[ar]?=some (.cells #[(.slice an aK.length ao)] 28))∧aA (Below w.heap.size w w'))
 case atStart=>exact ⟨(0),bg,H',⟨Nat.le_refl _⟩,⟨(aj a5)⟩,⟨(aj a9)⟩,⟨ay⟩⟩
 case round =>
 clear H'
 try clear c9;try clear ap;try clear ba;try clear bb
 obtain ⟨a6,rfl,HA,iq,a5,a9,HB⟩:=hrel
 cases gk with
 | zero=>exact absurd HA.out (by simp [um.l0])
 | succ k1 =>
 obtain ⟨H⟩:=HA
 simp only [um.l0] at H
 have bc:=m_ H
 clear H
 obtain ⟨aa,ab⟩:=iJ a7 a8
 have zF:=cu a5.out
 go_upto_if 17 with (fail)
 repeat (go_quiet (fail);go_upto_if 17 with (fail))
 (try clear aa ab)
 (try clear zF)
 obtain ⟨H⟩:=bc
 revert H;refine gI (fun aN H=>?_) fun aN H=>?_
 rotate_left
 ·try simp only [bI,bY,aN]
  obtain rfl:=cZ H
  go_wp2
  repeat (go_quiet (fail);try go_wp2)
  go_ret
  exact ⟨b_,ay⟩
 try simp only [bI,bY,aN]
 obtain ⟨bl,H⟩:=fU H
 obtain ⟨fK,H⟩:=fU H
 have bd:=m_ H
 clear H
 have FW:=cu a5.out
 have b2:0≤(a6:Int):=bC bD
 have b3:a6 < (aH.length:Int):=bC bD
 obtain ⟨bo,be,ac,ae,af⟩:=jP lF.out a6 b2 b3
 cases be
 replace ac:=gu HB.out ac
 replace ae:=gu HB.out ae
 replace af:=gu HB.out af
 replace b2:=eq_true b2
 replace b3:=eq_true b3
 have Qk:=cu a9.out
 have b4:0≤(a6:Int):=bC bD
 have b5:a6 < (aK.length:Int):=bC bD
 obtain ⟨bp,fF,ag,aP,ai⟩:=jP rC.out a6 b4 b5
 cases fF
 replace ag:=gu HB.out ag
 replace aP:=gu HB.out aP
 replace ai:=gu HB.out ai
 replace b4:=eq_true b4
 replace b5:=eq_true b5
 go_upto_if 30 with (fail)
 repeat (go_quiet (fail);go_upto_if 30 with (fail))
 (try clear aa ab)
 (try clear ac ae af)
 (try clear ag aP ai)
 obtain ⟨H⟩:=bd
 revert H;refine fJ (fun b7 H=>?_) fun b7 H=>?_
 ·have aT:(!((((au aH a6).f0).toList) == (((au aK a6).f0).toList)) || (!(((au aH a6).f1) == ((au aK a6).f1)) || (!((((au aH a6).f2).toList) == (((au aK a6).f2).toList)))))=true:=b7
  clear b7
  try simp only [bI,bY,aT]
  obtain rfl:=cZ H
  go_wp2
  repeat (go_quiet (fail);try go_wp2)
  go_ret
  exact ⟨b_,ay⟩
 have aT:(!((((au aH a6).f0).toList) == (((au aK a6).f0).toList)) || (!(((au aH a6).f1) == ((au aK a6).f1)) || (!((((au aH a6).f2).toList) == (((au aK a6).f2).toList)))))=false:=by simpa using b7
 clear b7
 try simp only [bI,bY,aT]
 have H':=m_ H
 clear H
 go_wp2
 repeat (go_quiet (fail);try go_wp2)
 go_roundg k1
 case measure=>have:=iq.out;omega
 case rel=>exact ⟨(wrap64 (a6+1)),bg,H',⟨nT⟩,⟨(aj a5)⟩,⟨(aj a9)⟩,⟨ay⟩⟩

def Ar.f (a6:Int) (a5:Int) (a7:Int) (a8:Int):Option (Bool):=(mZ.f a6 1 3).bind fun a9=>(if a9=true then ((mZ.f a5 5 12).bind fun aa=>(if aa=true then ((mZ.f a7 2 6).bind fun ab=>(if ab=true then ((mZ.f a8 1 (wrap64 (a5 - 4))).bind fun ac=>(some ac)) else (some false))) else (some false))) else (some false))
theorem Ar.calls (a5:Int) (a7:Int) (a8:Int) (a9:Int) (r:Bool) (w:World) (h:Ar.f a5 a7 a8 a9=some r) :
  Calls Tryz.prog 50 #[.agg #[ah a5,ah a7,ah a8,ah a9]] w fun e w'=>e=.returned (.bool r)∧Below w.heap.size w w':=by
 have w_:=underlying25
 have HB:=m_ (Below.refl w.heap.size w)
 unfold Ar.f at h
 have H:=h
 clear h
 obtain ⟨ae,A2,H⟩:=bd_ H
 by_cases c3:ae=true
 rotate_left
 ·replace c3:=Bool.eq_false_iff.mpr c3
  subst c3
  rw [if_neg iO] at H
  obtain rfl:=cZ H
  go_enter func50,ntmps50
  go_wp2_with (first|((with_reducible refine dG 1 ?_);refine dU 1 (cs:=#[ah a5,ah a7,ah a8,ah a9]) 25 ?_;intro aa hg am hbox hb;obtain ⟨HB,a6,ab,ac⟩:=kE ay hb hbox hg;clear hb hbox hg;have ai:=jQ a6.out)|((with_reducible refine bU 98 ?_);refine bV (some 5) rfl rfl func98 aB rfl #[ah a5,ah 1,ah 3] rfl aW ?_;(with_reducible refine (mZ.calls a5 1 3 false _ A2.out).mono ?_);rintro e w' ⟨rfl,⟨nd,rfl⟩⟩;refine ⟨_,rfl,?_⟩))
  go_ret
  exact ⟨b_,ay⟩
 subst c3
 rw [if_pos rfl] at H
 obtain ⟨af,A4,H⟩:=bd_ H
 by_cases c5:af=true
 rotate_left
 ·replace c5:=Bool.eq_false_iff.mpr c5
  subst c5
  rw [if_neg iO] at H
  obtain rfl:=cZ H
  go_enter func50,ntmps50
  go_wp2_with (first|((with_reducible refine dG 1 ?_);refine dU 1 (cs:=#[ah a5,ah a7,ah a8,ah a9]) 25 ?_;intro aa hg an hbox hb;obtain ⟨HB,a6,ab,ac⟩:=kE ay hb hbox hg;clear hb hbox hg;have aN:=jQ a6.out)|((with_reducible refine bU 98 ?_);refine bV (some 5) rfl rfl func98 aB rfl #[ah a5,ah 1,ah 3] rfl aW ?_;(with_reducible refine (mZ.calls a5 1 3 true _ A2.out).mono ?_);rintro e w' ⟨rfl,⟨nd,rfl⟩⟩;refine ⟨_,rfl,?_⟩)|(go_at_call 98;(with_reducible refine (mZ.calls a7 5 12 false _ A4.out).mono ?_);rintro e w' ⟨rfl,⟨nd,rfl⟩⟩))
  go_ret
  exact ⟨b_,ay⟩
 subst c5
 rw [if_pos rfl] at H
 obtain ⟨ag,A6,H⟩:=bd_ H
 by_cases c7:ag=true
 rotate_left
 ·replace c7:=Bool.eq_false_iff.mpr c7
  subst c7
  rw [if_neg iO] at H
  obtain rfl:=cZ H
  go_enter func50,ntmps50
  go_wp2_with (first|((with_reducible refine dG 1 ?_);refine dU 1 (cs:=#[ah a5,ah a7,ah a8,ah a9]) 25 ?_;intro aa hg ao hbox hb;obtain ⟨HB,a6,ab,ac⟩:=kE ay hb hbox hg;clear hb hbox hg;have aT:=jQ a6.out)|((with_reducible refine bU 98 ?_);refine bV (some 5) rfl rfl func98 aB rfl #[ah a5,ah 1,ah 3] rfl aW ?_;(with_reducible refine (mZ.calls a5 1 3 true _ A2.out).mono ?_);rintro e w' ⟨rfl,⟨nd,rfl⟩⟩;refine ⟨_,rfl,?_⟩)|(go_at_call 98;(with_reducible refine (mZ.calls a7 5 12 true _ A4.out).mono ?_);rintro e w' ⟨rfl,⟨nd,rfl⟩⟩)|(go_at_call 98;(with_reducible refine (mZ.calls a8 2 6 false _ A6.out).mono ?_);rintro e w' ⟨rfl,⟨nd,rfl⟩⟩))
  go_ret
  exact ⟨b_,ay⟩
 subst c7
 rw [if_pos rfl] at H
 obtain ⟨aP,x8,H⟩:=bd_ H
 obtain rfl:=cZ H
 go_enter func50,ntmps50
 go_wp2_with (first|((with_reducible refine dG 1 ?_);refine dU 1 (cs:=#[ah a5,ah a7,ah a8,ah a9]) 25 ?_;intro aa hg w9 hbox hb;obtain ⟨HB,a6,ab,ac⟩:=kE ay hb hbox hg;clear hb hbox hg;have al:=jQ a6.out)|((with_reducible refine bU 98 ?_);refine bV (some 5) rfl rfl func98 aB rfl #[ah a5,ah 1,ah 3] rfl aW ?_;(with_reducible refine (mZ.calls a5 1 3 true _ A2.out).mono ?_);rintro e w' ⟨rfl,⟨nd,rfl⟩⟩;refine ⟨_,rfl,?_⟩)|(go_at_call 98;(with_reducible refine (mZ.calls a7 5 12 true _ A4.out).mono ?_);rintro e w' ⟨rfl,⟨nd,rfl⟩⟩)|(go_at_call 98;(with_reducible refine (mZ.calls a8 2 6 true _ A6.out).mono ?_);rintro e w' ⟨rfl,⟨nd,rfl⟩⟩)|(go_at_call 98;(with_reducible refine (mZ.calls a9 1 (wrap64 (a7 - 4)) aP _ x8.out).mono ?_);rintro e w' ⟨rfl,⟨nd,rfl⟩⟩))
 go_ret
 exact ⟨b_,ay⟩

end Go.Proofs.YthejdhjpbpamoaaGreatDoor.jM
