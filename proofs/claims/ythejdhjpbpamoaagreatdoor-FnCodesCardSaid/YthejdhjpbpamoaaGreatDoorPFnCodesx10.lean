/- Contracts of Go functions: each call returns what the Lean function beside it computes. Conditions: as each theorem states them. -/
import Derived.Test.YthejdhjpbpamoaaGreatDoorPkFnCodes
import Derived.Test.YthejdhjpbpamoaaGreatDoorPFnCodesx1
import Derived.Test.YthejdhjpbpamoaaGreatDoorPFnCodesx3
import Derived.Test.YthejdhjpbpamoaaGreatDoorPFnCodesx6
import Derived.Test.YthejdhjpbpamoaaGreatDoorPFnCodesx8
import Derived.Test.YthejdhjpbpamoaaGreatDoorPFnCodesx9
namespace Go.Proofs.YthejdhjpbpamoaaGreatDoor.jD
open Go.RowKit Go.Proofs.YthejdhjpbpamoaaGreatDoorW.iw Go.Proofs.YthejdhjpbpamoaaGreatDoorW.lH Go.Proofs.YthejdhjpbpamoaaGreatDoorW.oO Go.Proofs.Tryz
attribute [local go_sem] qw qB qA qF qy qE qx qC   -- for this text's walks alone
set_option linter.unusedVariables false
set_option maxHeartbeats 8000000
set_option maxRecDepth 100000
set_option linter.unusedSimpArgs false

mutual
def qO.l0:Nat→List (aF)→Int→Unit→Int→Int→Int→Option ((List (aF)))
 | 0,_,_,_,_,_,_=>none
 | k+1,x0,x1,x2,x6,x7,gX=>if gX≤x1 then ((mJ.f k x0 x7 gX x2).bind fun a5=>(qO.l0 k a5 x1 x2 x6 gX (wrap64 (gX+x6)))) else ((mJ.f k x0 x7 x1 x2).bind fun a6=>(qO.l1 k a6 x1 x2 x6))
def qO.l1:Nat→List (aF)→Int→Unit→Int→Option ((List (aF)))
 | 0,_,_,_,_=>none
 | k+1,x0,x1,x2,x6=>if x6 < x1 then (qO.l2 k x0 x1 x2 x6 0 (wrap64 (2 * x6))) else (some x0)
def qO.l2:Nat→List (aF)→Int→Unit→Int→Int→Int→Option ((List (aF)))
 | 0,_,_,_,_,_,_=>none
 | k+1,x0,x1,x2,x6,x7,gX=>if gX≤x1 then ((fM.f k x0 x7 (wrap64 (x7+x6)) gX x2).bind fun a5=>(qO.l2 k a5 x1 x2 x6 gX (wrap64 (gX+(wrap64 (2 * x6)))))) else (if (wrap64 (x7+x6)) < x1 then ((fM.f k x0 x7 (wrap64 (x7+x6)) x1 x2).bind fun a6=>(qO.l1 k a6 x1 x2 (wrap64 (x6 * 2)))) else (qO.l1 k x0 x1 x2 (wrap64 (x6 * 2))))
end
def qO.f (k:Nat) (l0:List (aF)) (a1:Int) (a2:Unit):Option ((List (aF))):=qO.l0 k l0 a1 a2 20 0 20
theorem qO.calls (k:Nat) (dU:Nat→Prop) (je:Value) (l0:List (aF)) (a1:Int) (a2:Unit) (r:List (aF)) (w0 w:World) (hB:Below w0.heap.size w0 w) (ho0:Kd.R aU 43 w w0.heap.size dU je l0) (h:qO.f k l0 a1 a2=some r) :
  Calls Tryz.prog 96 #[je,ah a1,.func (.func 48) #[] #[]] w fun e w'=>e=.returned (.tuple #[])∧Kd.R aU 43 w' w0.heap.size (fun ay=>(dU ay∨w.heap.size≤ay)) je r∧Below w0.heap.size w0 w'∧Kept w w' (fun ay=>dU ay):=by
 have aw:=m_ (show Kd.R aU 43 w w0.heap.size (fun ay=>(dU ay∨w.heap.size≤ay)) je l0 from Kd.bn ho0 (fun ay hk=>(.inl hk)))
 have HK:=m_ (Kept.refl w (fun ay=>dU ay))
 have HW0:=m_ hB.size
 have HB:=m_ hB
 clear hB
 unfold qO.f at h
 have H:=h
 clear h
 have H':=m_ H
 clear H
 go_enter func96,ntmps96
 go_wp2
 go_loopg [7,8] k (fun kq v7 v8 w'=>∃ (a6:List (aF)) (aa:Int) (dH:Int),v7=ah aa∧v8=ah dH∧aA (qO.l0 kq a6 a1 a2 20 aa dH=some r)∧aA (kq≤k)∧aA (Kd.R aU 43 w' w0.heap.size (fun ay=>(dU ay∨w.heap.size≤ay)) je a6)∧aA (Kept w w' (fun ay=>dU ay))∧aA (Below w0.heap.size w0 w'))
 case atStart=>exact ⟨(l0),(0),(20),bg,bg,H',⟨Nat.le_refl _⟩,⟨(aJ aw)⟩,⟨jc⟩,⟨au⟩⟩
 case round =>
 clear H'
 obtain ⟨a6,aa,dH,rfl,rfl,HA,gZ,bJ,HK,HB⟩:=hrel
 cases gk with
 | zero=>exact absurd HA.out (by simp [qO.l0])
 | succ k1 =>
 obtain ⟨H⟩:=HA
 simp only [qO.l0] at H
 revert H;refine gJ (fun aK H=>?_) fun aK H=>?_
 ·obtain ⟨am,A5,H⟩:=bd_ H
  have H':=m_ H
  clear H
  obtain ⟨aW,av,ax⟩:=Kd.dK bJ.out
  subst ax
  go_wp2_with (first|((with_reducible refine bT 132 ?_);refine bU (some 18) rfl rfl func132 aB rfl #[.slice aW a6.length av,ah aa,ah dH,.func (.func 48) #[] #[]] rfl aX ?_;(with_reducible refine (mJ.calls k1 (fun ay=>some ay=(.slice aW a6.length av:Value).ownBlock) (.slice aW a6.length av) a6 aa dH a2 am w0 _ au (Kd.tV rfl bJ.out) A5.out).mono ?_);rintro e w7 ⟨rfl,ab,hb,hkp⟩;refine ⟨_,rfl,?_⟩;obtain ⟨bJ,HK,HB⟩:=p_ (Kd.wS rfl ab (fun ay e_=>bJ.out.1 ay e_)) <| p_ (Kept.then_ (S:=(fun ay=>dU ay)) jc hkp (fun ay hs_=>(fun e_=>(bJ.out.1 ay e_.symm)) hs_)) <| a_ (hb);(try clear hb);(try clear hkp);(try clear ab)))
  go_roundg k1
  case measure=>have:=gZ.out;omega
  case rel=>exact ⟨(am),(dH),(wrap64 (dH+20)),bg,bg,H',⟨ou⟩,⟨(aJ bJ)⟩,⟨jc⟩,⟨au⟩⟩
 obtain ⟨an,Ci,H⟩:=bd_ H
 have H':=m_ H
 clear H
 obtain ⟨ac,ae,bH⟩:=Kd.dK bJ.out
 subst bH
 go_wp2_with (first|((with_reducible refine bT 132 ?_);refine bU (some 27) rfl rfl func132 aB rfl #[.slice ac a6.length ae,ah aa,ah a1,.func (.func 48) #[] #[]] rfl aX ?_;(with_reducible refine (mJ.calls k1 (fun ay=>some ay=(.slice ac a6.length ae:Value).ownBlock) (.slice ac a6.length ae) a6 aa a1 a2 an w0 _ au (Kd.tV rfl bJ.out) Ci.out).mono ?_);rintro e b1 ⟨rfl,ab,hb,hkp⟩;refine ⟨_,rfl,?_⟩;obtain ⟨bJ,HK,HB⟩:=p_ (Kd.wS rfl ab (fun ay e_=>bJ.out.1 ay e_)) <| p_ (Kept.then_ (S:=(fun ay=>dU ay)) jc hkp (fun ay hs_=>(fun e_=>(bJ.out.1 ay e_.symm)) hs_)) <| a_ (hb);(try clear hb);(try clear hkp);(try clear ab)))
 (try simp only [Act.put,List.setIfInBounds_toArray,List.set_cons_zero,List.set_cons_succ])
 go_loopg [6] k1 (fun kq v6 w'=>∃ (af:List (aF)) (a5:Int),v6=ah a5∧aA (qO.l1 kq af a1 a2 a5=some r)∧aA (kq≤k1)∧aA (Kd.R aU 43 w' w0.heap.size (fun ay=>(dU ay∨w.heap.size≤ay)) (.slice ac a6.length ae) af)∧aA (Kept w w' (fun ay=>dU ay))∧aA (Below w0.heap.size w0 w'))
 case atStart=>exact ⟨(an),(20),bg,H',⟨Nat.le_refl _⟩,⟨(aJ bJ)⟩,⟨jc⟩,⟨au⟩⟩
 case round =>
 clear H'
 try clear c4;try clear aK
 obtain ⟨af,a5,rfl,HA,jM,bJ,HK,HB⟩:=hrel
 have DJ:=(Kd.dN bJ.out).1
 rw [DJ] at bJ
 (try simp only [DJ])
 cases gk with
 | zero=>exact absurd HA.out (by simp [qO.l1])
 | succ k2 =>
 obtain ⟨H⟩:=HA
 simp only [qO.l1] at H
 revert H;refine gJ (fun ag H=>?_) fun ag H=>?_
 rotate_left
 ·obtain rfl:=dF H
  go_wp2
  first|go_end0|((try simp only [Exit.inBlock,Exit.then]);refine bodyPost_ret (results_none rfl _ _ _) rfl ?_)
  exact ⟨bM,(by first|exact (aJ bJ)|(simp only [DJ];exact (aJ bJ))),au,jc⟩
 have H':=m_ H
 clear H
 go_wp2
 go_loopg [7,8] k2 (fun kq v7 v8 w'=>∃ (a7:List (aF)) (a8:Int) (a9:Int),v7=ah a8∧v8=ah a9∧aA (qO.l2 kq a7 a1 a2 a5 a8 a9=some r)∧aA (kq≤k2)∧aA (Kd.R aU 43 w' w0.heap.size (fun ay=>(dU ay∨w.heap.size≤ay)) (.slice ac af.length ae) a7)∧aA (Kept w w' (fun ay=>dU ay))∧aA (Below w0.heap.size w0 w'))
 case atStart=>exact ⟨(af),(0),(wrap64 (2 * a5)),bg,bg,H',⟨Nat.le_refl _⟩,⟨(by (try simp only [DJ]);(with_reducible repeat (first|apply Kd.dB|apply Kd.dD|apply Kd.aZ));exact bJ.out)⟩,⟨jc⟩,⟨au⟩⟩
 case round =>
 clear H'
 try clear ai;try clear ag
 obtain ⟨a7,a8,a9,rfl,rfl,HA,aN,bJ,HK,HB⟩:=hrel
 have GV:=(Kd.dN bJ.out).1
 rw [GV] at bJ
 (try simp only [GV])
 cases gk with
 | zero=>exact absurd HA.out (by simp [qO.l2])
 | succ k3 =>
 obtain ⟨H⟩:=HA
 simp only [qO.l2] at H
 revert H;refine gJ (fun ao H=>?_) fun ao H=>?_
 ·obtain ⟨ap,az,H⟩:=bd_ H
  have H':=m_ H
  clear H
  go_wp2_with (first|((with_reducible refine bT 133 ?_);refine bU (some 43) rfl rfl func133 aB rfl #[.slice ac a7.length ae,ah a8,ah (wrap64 (a8+a5)),ah a9,.func (.func 48) #[] #[]] rfl aX ?_;(with_reducible refine (fM.calls k3 (fun ay=>some ay=(.slice ac a7.length ae:Value).ownBlock) (.slice ac a7.length ae) a7 a8 (wrap64 (a8+a5)) a9 a2 ap w0 _ au (Kd.tV rfl bJ.out) az.out).mono ?_);rintro e b2 ⟨rfl,ab,hb,hkp⟩;refine ⟨_,rfl,?_⟩;obtain ⟨bJ,HK,HB⟩:=p_ (Kd.wS rfl ab (fun ay e_=>bJ.out.1 ay e_)) <| p_ (Kept.then_ (S:=(fun ay=>dU ay)) jc hkp (fun ay hs_=>(fun e_=>(bJ.out.1 ay e_.symm)) hs_)) <| a_ (hb);(try clear hb);(try clear hkp);(try clear ab)))
  (try simp only [← GV])
  go_roundg k3
  case measure=>have:=gZ.out;have:=jM.out;have:=aN.out;omega
  case rel=>exact ⟨(ap),(a9),(wrap64 (a9+(wrap64 (2 * a5)))),bg,bg,H',⟨(by have:=gZ.out;have:=jM.out;have:=aN.out;omega)⟩,⟨Uf⟩,⟨jc⟩,⟨au⟩⟩
 revert H;refine gJ (fun aq H=>?_) fun aq H=>?_
 rotate_left
 ·have H':=m_ H
  clear H
  go_wp2
  (try simp only [← DJ,← GV])
  go_roundg k3
  case measure=>have:=gZ.out;have:=jM.out;have:=aN.out;omega
  case rel=>exact ⟨(a7),(wrap64 (a5 * 2)),bg,H',⟨(by have:=gZ.out;have:=jM.out;have:=aN.out;omega)⟩,⟨Uf⟩,⟨jc⟩,⟨au⟩⟩
 obtain ⟨ar,b0,H⟩:=bd_ H
 have H':=m_ H
 clear H
 go_wp2_with (first|((with_reducible refine bT 133 ?_);refine bU (some 60) rfl rfl func133 aB rfl #[.slice ac a7.length ae,ah a8,ah (wrap64 (a8+a5)),ah a1,.func (.func 48) #[] #[]] rfl aX ?_;(with_reducible refine (fM.calls k3 (fun ay=>some ay=(.slice ac a7.length ae:Value).ownBlock) (.slice ac a7.length ae) a7 a8 (wrap64 (a8+a5)) a1 a2 ar w0 _ au (Kd.tV rfl bJ.out) b0.out).mono ?_);rintro e b3 ⟨rfl,ab,hb,hkp⟩;refine ⟨_,rfl,?_⟩;obtain ⟨bJ,HK,HB⟩:=p_ (Kd.wS rfl ab (fun ay e_=>bJ.out.1 ay e_)) <| p_ (Kept.then_ (S:=(fun ay=>dU ay)) jc hkp (fun ay hs_=>(fun e_=>(bJ.out.1 ay e_.symm)) hs_)) <| a_ (hb);(try clear hb);(try clear hkp);(try clear ab)))
 (try simp only [← DJ,← GV])
 go_roundg k3
 case measure=>have:=gZ.out;have:=jM.out;have:=aN.out;omega
 case rel=>exact ⟨(ar),(wrap64 (a5 * 2)),bg,H',⟨(by have:=gZ.out;have:=jM.out;have:=aN.out;omega)⟩,⟨Uf⟩,⟨jc⟩,⟨au⟩⟩

def J5.f (k:Nat) (l0:List (aF)) (a1:Unit):Option ((List (aF))):=(qO.f k l0 (l0.length:Int) a1).bind fun a5=>(some a5)
theorem J5.calls (k:Nat) (dU:Nat→Prop) (je:Value) (l0:List (aF)) (a1:Unit) (r:List (aF)) (w0 w:World) (hB:Below w0.heap.size w0 w) (ho0:Kd.R aU 43 w w0.heap.size dU je l0) (h:J5.f k l0 a1=some r) :
  Calls Tryz.prog 47 #[je,.func (.func 48) #[] #[]] w fun e w'=>e=.returned (.tuple #[])∧Kd.R aU 43 w' w0.heap.size (fun ay=>(dU ay∨w.heap.size≤ay)) je r∧Below w0.heap.size w0 w'∧Kept w w' (fun ay=>dU ay):=by
 have a5:=m_ (show Kd.R aU 43 w w0.heap.size (fun ay=>(dU ay∨w.heap.size≤ay)) je l0 from Kd.bn ho0 (fun ay hk=>(.inl hk)))
 have HK:=m_ (Kept.refl w (fun ay=>dU ay))
 have HW0:=m_ hB.size
 have HB:=m_ hB
 clear hB
 unfold J5.f at h
 have H:=h
 clear h
 obtain ⟨a6,A3,H⟩:=bd_ H
 obtain rfl:=dF H
 obtain ⟨a7,a8,aa⟩:=Kd.dK a5.out
 subst aa
 go_enter func47,ntmps47
 go_wp2_with (first|((with_reducible refine bT 96 ?_);refine bU (some 8) rfl rfl func96 aB rfl #[.slice a7 l0.length a8,ah (l0.length:Int),.func (.func 48) #[] #[]] rfl aX ?_;(with_reducible refine (qO.calls k (fun ay=>some ay=(.slice a7 l0.length a8:Value).ownBlock) (.slice a7 l0.length a8) l0 (l0.length:Int) a1 a6 w0 _ au (Kd.tV rfl a5.out) A3.out).mono ?_);rintro e w5 ⟨rfl,a9,hb,hkp⟩;refine ⟨_,rfl,?_⟩;obtain ⟨a5,HK,HB⟩:=p_ (Kd.wS rfl a9 (fun ay e_=>a5.out.1 ay e_)) <| p_ (Kept.then_ (S:=(fun ay=>dU ay)) jc hkp (fun ay hs_=>(fun e_=>(a5.out.1 ay e_.symm)) hs_)) <| a_ (hb);(try clear hb);(try clear hkp);(try clear a9)))
 first|go_end0|((try simp only [Exit.inBlock,Exit.then]);refine bodyPost_ret (results_none rfl _ _ _) rfl ?_)
 exact ⟨bM,(aJ a5),au,jc⟩

def nI.l0:Nat→ByteArray→ByteArray→Int→Int→List (aF)→Option ((List (aF)))
 | 0,_,_,_,_,_=>none
 | k+1,x1,x2,a9,a6,a5=>if a6 < a9 then (if 0≤a6 then (if a6 < (a5.length:Int) then (if ((aC a5 a6).f0).toList=x1.toList then (if 0≤(x1.size:Int) then (if (x1.size:Int)≤(((aC a5 a6).f0).size:Int) then ((some (((aC a5 a6).f0).extract ((x1.size:Int):Int).toNat ((aC a5 a6).f0).size:ByteArray)).bind fun a7=>(if x2.size+a7.size≤9223372036854775807 then ((some (x2++a7:ByteArray)).bind fun aa=>(nI.l0 k x1 x2 a9 (wrap64 (a6+1)) (a5.set (a6:Int).toNat (⟨aa,(aC a5 a6).f1,(aC a5 a6).f2⟩:aF)))) else (none))) else (none)) else (none)) else ((DV.f k ((aC a5 a6).f0) x1).bind fun ab=>(if ab=true then (if 0≤(x1.size:Int) then (if (x1.size:Int)≤(((aC a5 a6).f0).size:Int) then ((some (((aC a5 a6).f0).extract ((x1.size:Int):Int).toNat ((aC a5 a6).f0).size:ByteArray)).bind fun a8=>(if x2.size+a8.size≤9223372036854775807 then ((some (x2++a8:ByteArray)).bind fun ac=>(nI.l0 k x1 x2 a9 (wrap64 (a6+1)) (a5.set (a6:Int).toNat (⟨ac,(aC a5 a6).f1,(aC a5 a6).f2⟩:aF)))) else (none))) else (none)) else (none)) else (nI.l0 k x1 x2 a9 (wrap64 (a6+1)) a5)))) else (none)) else (none)) else ((J5.f k a5 ()).bind fun ae=>(some ae))
def nI.f (k:Nat) (a6:List (aF)) (a1:ByteArray) (a2:ByteArray):Option ((List (aF))):=(xP.f a6).bind fun a5=>(nI.l0 k a1 a2 (a5.length:Int) 0 a5)
def nI.T6:Bool × List (List Nat × List Nat):=(true,[([],[]),([0],[0]),([],[]),([],[]),([],[]),([4],[4]),([],[]),([6],[6]),([5,7],[5,7]),([3,8],[3,8]),([1,2,0,1,2,3,4,5,6,7,8,9],[1,2]),([10,0,1,2,3,4,5,6,7,8,9],[10]),([11,9,0,1,2,3,4,5,6,7,8,9],[9,11])])
def nI.B6:List Nat:=[0,1,0,0,0,16,0,64,240,504,1023,2047,4095]
theorem nI.tab6:kZ .any (opsOf Tryz.f9 6)=nI.T6:=by kernel_rfl
theorem nI.IQ:uS nI.T6.2 nI.B6=true:=by kernel_rfl
theorem nI.calls (k:Nat) (az:Option Addr) (b0:Nat) (aI:List (aF)) (a1:ByteArray) (a2:ByteArray) (r:List (aF)) (w:World) (jV:iK w) (bz:Kd.C aU w az aI.length aI) (ca:aI.length≤b0) (h:nI.f k aI a1 a2=some r) :
  Calls Tryz.prog 9 #[.agg #[.slice az aI.length b0],.string a1,.string a2] w fun e w'=>∃ eP:Value,e=.returned (.agg #[eP])∧Kd.R aU 43 w' w.heap.size (fun _=>True) eP r∧Below w.heap.size w w':=by
 have mF:=underlying28
 have uf:=underlying43
 have lq:=m_ bz
 have d1:=m_ ca
 clear bz ca
 have HD:=m_ jV
 clear jV
 have HB:=m_ (Below.refl w.heap.size w)
 unfold nI.f at h
 have H:=h
 clear h
 obtain ⟨aN,A4,H⟩:=bd_ H
 have H':=m_ H
 clear H
 go_enter func9,ntmps9
 go_wp2_with (first|((with_reducible refine dJ 3 ?_);refine dO 3 (cs:=#[.slice az aI.length b0]) 28 ?_;intro bi hg w5 hbox hb;obtain ⟨HB,nS,ee,bj⟩:=kL au hb hbox hg;clear hb hbox hg)|((with_reducible refine dJ 6 ?_);refine dO 6 (cs:=#[.slice none 0 0]) 28 ?_;intro b7 hg w6 hbox hb;obtain ⟨nS,HB,oz,ef,bl,al,am⟩:=pq (ak nS) au hb hbox hg;clear hb hbox hg;obtain ⟨an,ao⟩:=gB al am;have AY:=dh nS.out)|((with_reducible refine bT 45 ?_);refine bU (some 11) rfl rfl func45 aB rfl #[.agg #[.slice az aI.length b0]] rfl aX ?_;(with_reducible refine (xP.calls _ _ aI aN _ pY d1.out A4.out).mono ?_);rintro e w9 ⟨azy,rfl,ho0,hb⟩;refine ⟨_,rfl,?_⟩;obtain ⟨ap,nS,oz,HB⟩:=p_ (Kd.dI ho0 (cZ au)) <| Ai (ak nS) (ak oz) au hb;(try clear hb);(try clear ho0))|((with_reducible refine dJ 7 ?_);refine dO 7 (cs:=#[.slice none 0 0]) 28 ?_;intro aq hg fm hbox hb;obtain ⟨ap,nS,oz,HB,oC,eh,bm,bd,be,fA,dM⟩:=p_ (Kd.dw (aJ ap) hb) <| pU (ak nS) (ak oz) au hb hbox hg;clear hb hbox hg;obtain ⟨bh,aQ,dv⟩:=Kd.dK ap.out;subst dv;obtain ⟨fB,bo,bp,bq⟩:=g_ be bd dM fA;have Kr:=dh oC.out))
 (try simp only [Act.put,List.setIfInBounds_toArray,List.set_cons_zero,List.set_cons_succ])
 go_loopg [15] k (fun kq v15 w'=>∃ (a6:Int) (a5:List (aF)),v15=ah a6∧aA (nI.l0 kq a1 a2 (aN.length:Int) a6 a5=some r)∧aA (kq≤k)∧aA (Kd.R aU 43 w' w.heap.size (fun _=>True) (.slice bh aN.length aQ) a5)∧aA (w'.heap[bi]?=some (.cells #[(.slice az aI.length b0)] 28))∧aA (w'.heap[b7]?=some (.cells #[(.slice none 0 0)] 28))∧aA (w'.heap[aq]?=some (.cells #[(.slice bh aN.length aQ)] 28))∧aA (Below w.heap.size w w'))
 case atStart=>exact ⟨(0),(aN),bg,H',⟨Nat.le_refl _⟩,⟨(by (with_reducible repeat (first|apply Kd.dB|apply Kd.dD|apply Kd.aZ));exact Kd.bn (aH (Kd.bQ ap.out oC.out (by decide))) (fun _ hk=>trivial))⟩,⟨aT⟩,⟨aT⟩,⟨aT⟩,⟨au⟩⟩
 case round =>
 clear H'
 try clear Kr;try clear AY;try clear Kr;try clear AY
 obtain ⟨a6,a5,rfl,HA,gZ,kR,nS,oz,oC,HB⟩:=hrel
 have uz:=(Kd.dN kR.out).1
 rw [uz] at kR
 (try simp only [uz])
 (try simp only [uz] at nS)
 (try simp only [uz] at oz)
 (try simp only [uz] at oC)
 cases gk with
 | zero=>exact absurd HA.out (by simp [nI.l0])
 | succ k1 =>
 obtain ⟨H⟩:=HA
 simp only [nI.l0] at H
 revert H;refine fH (fun d0 H=>?_) fun d0 H=>?_
 rotate_left
 ·have br:=vX d0
  (try simp only [uz] at br)
  clear d0
  obtain ⟨jU,f8,H⟩:=bd_ H
  obtain rfl:=dF H
  have aaV:=dh oC.out
  go_wp2_with (first|((with_reducible refine bT 47 ?_);refine bU (some 45) rfl rfl func47 aB rfl #[.slice bh a5.length aQ,.func (.func 48) #[] #[]] rfl aX ?_;(with_reducible refine (J5.calls k1 (fun ay=>some ay=(.slice bh a5.length aQ:Value).ownBlock) (.slice bh a5.length aQ) a5 () jU w _ ?kX (Kd.tV rfl kR.out) f8.out).mono ?_);(case kX=>repeat (first|(with_reducible first|exact HB.out|apply mY|apply qN|apply lC|refine iF ?_ bj.out|refine iF ?_ bl.out|refine iF ?_ bm.out)|exact HB.out));rintro e fq ⟨rfl,ei,hb,hkp⟩;refine ⟨_,rfl,?_⟩;obtain ⟨kR,nS,oz,oC,HB⟩:=p_ (Kd.wS rfl ei (fun ay e_=>kR.out.1 ay e_)) <| p_ (vW (ak nS) hkp (fun hs_=>(fun e_=>(Kd.fV kR.out nS.out (by decide)) e_) hs_)) <| p_ (vW (ak oz) hkp (fun hs_=>(fun e_=>(Kd.fV kR.out oz.out (by decide)) e_) hs_)) <| p_ (vW (ak oC) hkp (fun hs_=>(fun e_=>(Kd.fV kR.out oC.out (by decide)) e_) hs_)) <| a_ (hb);(try clear hb);(try clear hkp);(try clear ei);have ala:=dh oC.out;obtain ⟨ao,an⟩:=gB am al;have aBh:=dh oz.out))
  refine bodyPost_ret (results_cell_row rfl _ _ b7 28 #[.slice bh a5.length aQ] (0,0) _ rfl aT underlying28 rfl aB) rfl ?_
  exact ⟨_,bM,(by (with_reducible repeat (first|apply Kd.dB|apply Kd.dD|apply Kd.aZ));exact Kd.bn (aH (Kd.bQ kR.out oz.out (by decide))) (fun _ hk=>trivial)),au⟩
 have br:=mM d0
 (try simp only [uz] at br)
 clear d0
 obtain ⟨ek,H⟩:=gK H
 obtain ⟨em,H⟩:=gK H
 revert H;refine fH (fun ck H=>?_) fun ck H=>?_
 ·have d2:=fZ ck
  have d3:=f_ ck
  clear ck
  obtain ⟨en,eo,H⟩:=jE H
  obtain ⟨ep,eq,H⟩:=jE H
  obtain ⟨bw,cc⟩:∃ y_:ByteArray,(((aC a5 a6).f0).extract ((a1.size:Int):Int).toNat ((aC a5 a6).f0).size)=y_:=⟨_,rfl⟩
  replace H:(if a2.size+bw.size≤9223372036854775807 then ((some (a2++bw:ByteArray)).bind fun b1=>(nI.l0 k1 a1 a2 (aN.length:Int) (wrap64 (a6+1)) (a5.set (a6:Int).toNat (⟨b1,(aC a5 a6).f1,(aC a5 a6).f2⟩:aF)))) else (none))=some r:=by rw [← cc];exact (Option.bind_some _ _).symm.trans H
  (try simp only [Int.toNat_natCast] at cc)
  obtain ⟨dr,H⟩:=kV H
  have er:=eq_true dr
  have es:=mM dr
  try have et:(9223372036854775807 < a2.size+bw.size)=False:=eq_false (Nat.not_lt.2 dr)
  clear dr
  obtain ⟨b1,cd⟩:∃ y_:ByteArray,(a2++bw)=y_:=⟨_,rfl⟩
  replace H:(nI.l0 k1 a1 a2 (aN.length:Int) (wrap64 (a6+1)) (a5.set (a6:Int).toNat (⟨b1,(aC a5 a6).f1,(aC a5 a6).f2⟩:aF)))=some r:=by rw [← cd];exact (Option.bind_some _ _).symm.trans H
  (try simp only [Int.toNat_natCast] at cd)
  obtain ⟨d4,bs⟩:∃ y_:List (aF),y_=(a5.set (a6:Int).toNat (⟨b1,(aC a5 a6).f1,(aC a5 a6).f2⟩:aF)):=⟨_,rfl⟩
  rw [← bs] at H
  have d5:=m_ bs
  clear bs
  have H':=m_ H
  clear H
  have b2:0≤(a6:Int):=bF bG
  have b3:a6 < (a5.length:Int):=bF bG
  obtain ⟨b8,cl,ac,ae,af⟩:=kY (Kd.dN kR.out).2.2 a6 b2 b3
  cases cl
  replace b2:=eq_true b2
  replace b3:=eq_true b3
  try go_wp2_with (first|((with_reducible refine dJ 9 ?_);refine dO 9 (cs:=#[.string (⟨#[]⟩:ByteArray),.bool false,.string (⟨#[]⟩:ByteArray)]) 43 ?_;intro a7 hg cm hbox hb;obtain ⟨kR,nS,oz,oC,HB,a8,d6,bu,a9,ag,aa,aK,ab,ai⟩:=p_ (Kd.dw (Kd.O6 (aJ kR) a7 (Nat.le_of_eq hg.symm)) hb) <| vI (ak nS) (ak oz) (ak oC) au hb hbox hg;clear hb hbox hg;obtain ⟨ar,aW,av,aw,ax,bH⟩:=kJ ag a9 aK aa ai ab;have fa:=uw a8.out))
  have eF:aA (Kd.R aU 43 (((cm.setCell ⟨a7,0,none⟩ (.string ((aC a5 a6).f0))).setCell ⟨a7,1,none⟩ (.bool ((aC a5 a6).f1))).setCell ⟨a7,2,none⟩ (.string ((aC a5 a6).f2))) w.heap.size (fun ay=>ay≠a7) (.slice (some b8) a5.length aQ) a5):=⟨(by (with_reducible repeat (first|apply Kd.dB|apply Kd.dD|apply Kd.aZ));exact Kd.bn (aH (aH (aH (Kd.bn kR.out (fun ay hk=>(⟨hk,hk.2⟩:_∧ay≠a7)))))) (fun _ hk=>hk.1.2))⟩
  have jF:aA ((((cm.setCell ⟨a7,0,none⟩ (.string ((aC a5 a6).f0))).setCell ⟨a7,1,none⟩ (.bool ((aC a5 a6).f1))).setCell ⟨a7,2,none⟩ (.string ((aC a5 a6).f2))).heap[bi]?=some (.cells #[.slice az aI.length b0] 28)):=⟨aT⟩
  have jG:aA ((((cm.setCell ⟨a7,0,none⟩ (.string ((aC a5 a6).f0))).setCell ⟨a7,1,none⟩ (.bool ((aC a5 a6).f1))).setCell ⟨a7,2,none⟩ (.string ((aC a5 a6).f2))).heap[b7]?=some (.cells #[.slice none 0 0] 28)):=⟨aT⟩
  have jH:aA ((((cm.setCell ⟨a7,0,none⟩ (.string ((aC a5 a6).f0))).setCell ⟨a7,1,none⟩ (.bool ((aC a5 a6).f1))).setCell ⟨a7,2,none⟩ (.string ((aC a5 a6).f2))).heap[aq]?=some (.cells #[.slice (some b8) a5.length aQ] 28)):=⟨aT⟩
  have jI:aA ((((cm.setCell ⟨a7,0,none⟩ (.string ((aC a5 a6).f0))).setCell ⟨a7,1,none⟩ (.bool ((aC a5 a6).f1))).setCell ⟨a7,2,none⟩ (.string ((aC a5 a6).f2))).heap[a7]?=some (.cells #[.string ((aC a5 a6).f0),.bool ((aC a5 a6).f1),.string ((aC a5 a6).f2)] 43)):=⟨aT⟩
  have jL:aA (Below w.heap.size w (((cm.setCell ⟨a7,0,none⟩ (.string ((aC a5 a6).f0))).setCell ⟨a7,1,none⟩ (.bool ((aC a5 a6).f1))).setCell ⟨a7,2,none⟩ (.string ((aC a5 a6).f2)))):=⟨au⟩
  (try clear kR)
  (try clear nS)
  (try clear oz)
  (try clear oC)
  (try clear a8)
  (try clear HB)
  generalize (((cm.setCell ⟨a7,0,none⟩ (.string ((aC a5 a6).f0))).setCell ⟨a7,1,none⟩ (.bool ((aC a5 a6).f1))).setCell ⟨a7,2,none⟩ (.string ((aC a5 a6).f2)))=fb at eF jF jG jH jI jL ⊢
  have kR:=eF
  have nS:=jF
  have oz:=jG
  have oC:=jH
  have a8:=jI
  have HB:=jL
  clear eF jF jG jH jI jL
  obtain ⟨kR,nS,oz,oC,a8,HB⟩:=p_ (Kd.aZ kR.out) <| wV nS oz oC a8 HB
  have dz:0≤(a6:Int):=bF bG
  have e0:(a6:Int) < ((a5.length:Int):Int):=bF bG
  obtain ⟨b4,fc,d7,d8,e3,fd,d9⟩:=Kd.yQ kR.out (by omega)
  (first|cases d7|(injection d7 with kQ uX uV;(first|subst kQ|(injection kQ with kQ;subst kQ));subst uV;clear uX))
  have e4:=m_ d8
  have e5:=m_ d9
  clear d8 e3 d9
  (first|simp only [add_plain] at ac|skip)
  (first|simp only [add_plain] at ae|skip)
  (first|simp only [add_plain] at af|skip)
  obtain ⟨fe,da,db,b9,ba⟩:=Kd.oP kR.out z43 (a6:Int) dz e0
  obtain rfl:=oW db
  have cn:World.cell? _ ⟨b4,(a6:Int).toNat * 3,none⟩=some (.string ((aC a5 a6).f0)):=b9 0 _ rfl
  have co:World.cell? _ ⟨b4,(a6:Int).toNat * 3+1,none⟩=some (.bool ((aC a5 a6).f1)):=b9 1 _ rfl
  have cp:World.cell? _ ⟨b4,(a6:Int).toNat * 3+2,none⟩=some (.string ((aC a5 a6).f2)):=b9 2 _ rfl
  have cq:World.frozen? _ ⟨b4,(a6:Int).toNat * 3,none⟩=false:=ba 0
  have cr:World.frozen? _ ⟨b4,(a6:Int).toNat * 3+1,none⟩=false:=ba 1
  have ct:World.frozen? _ ⟨b4,(a6:Int).toNat * 3+2,none⟩=false:=ba 2
  clear da b9 ba db
  replace dz:=eq_true dz
  replace e0:=eq_true e0
  obtain ⟨ff,ce,dd,cf,de⟩:=Kd.oP kR.out z43 (a6:Int) (bF bG) (by have dG:(a6:Int) < ((a5.length:Int):Int):=bF bG;first|exact dG|(have e_:=(Kd.dN kR.out).1;omega)|simpa using dG)
  obtain rfl:=oW dd
  have Cj:=(Kd.yc kR.out (a6:Int) (bF bG) (by have dG:(a6:Int) < ((a5.length:Int):Int):=bF bG;first|exact dG|(have e_:=(Kd.dN kR.out).1;omega)|simpa using dG) (seg:=[.string b1]) (j:=0) ce cf (show 1≤3 from by decide) (x':=(⟨b1,(aC a5 a6).f1,(aC a5 a6).f2⟩:aF)) (qp _ _ _ (⟨b1,(aC a5 a6).f1,(aC a5 a6).f2⟩:aF) ) (fun _ hk=>hk)).1
  rw [← d5.out] at Cj
  have Iy:=m_ Cj
  clear ce cf de dd Cj
  refine iT (n:=13) (S:=fun w'=>jQ w' aq (.slice (some ⟨b4,0,none⟩) a5.length aQ) <| A8 w' a7 (.string ((aC a5 a6).f0)) (.bool ((aC a5 a6).f1)) (.string ((aC a5 a6).f2))) (ds:=[12]) Dh aB rfl rfl ⟨(aP oC.out 0).trans rfl,sG a8.out⟩ (fun hH=>?_);refine kE nI.tab6 nI.IQ (fun aO fJ=>?_)
  generalize fb.drew=fs at kR nS oz oC a8 HB e5 Iy cq cr ct cn co cp ac ae af hH ⊢
  refine bV 0 ?_
  refine bV 2 ?_
  refine bV 3 ?_
  refine bV 4 ?_
  refine bV 6 ?_
  refine bV 7 ?_
  refine lg 1 hH ?_
  refine lg 5 hH ?_
  refine bV 8 ?_
  refine bV 9 ?_
  refine bV 10 ?_
  refine bV 11 ?_
  refine xQ 12 (fun K hK=>?_)
  refine iM (w1:=?_) (by rfl) rfl ?_ ?_
  rotate_left
  ·go_simp
   rfl
  refine hK.out _ _ ?_
  clear hK K
  refine iP (ku aO.out aB) ?_
  try go_wp2
  (try simp only [← uz])
  go_roundg k1
  case measure=>have:=gZ.out;omega
  case rel=>exact ⟨(wrap64 (a6+1)),(d4),bg,H',⟨ou⟩,⟨(by (try simp only [uz]);(with_reducible repeat (first|apply Kd.dB|apply Kd.dD|apply Kd.aZ));exact Kd.bn Iy.out (fun _ hk=>trivial))⟩,⟨aaN⟩,⟨aaM⟩,⟨aaL⟩,⟨(by repeat (first|(with_reducible first|exact HB.out|apply mY|apply qN|apply lC|refine iF ?_ e4.out|refine iF ?_ bj.out|refine iF ?_ bl.out|refine iF ?_ bm.out|refine iF ?_ bu.out)|exact HB.out))⟩⟩
 have d2:=fP ck
 have d3:=fQ ck
 obtain ⟨df,fg,H⟩:=bd_ H
 have dg:=m_ H
 clear H
 have b2:0≤(a6:Int):=bF bG
 have b3:a6 < (a5.length:Int):=bF bG
 obtain ⟨b8,cl,ac,ae,af⟩:=kY (Kd.dN kR.out).2.2 a6 b2 b3
 cases cl
 replace b2:=eq_true b2
 replace b3:=eq_true b3
 go_upto_if 29 with (first|((with_reducible refine dJ 9 ?_);refine dO 9 (cs:=#[.string (⟨#[]⟩:ByteArray),.bool false,.string (⟨#[]⟩:ByteArray)]) 43 ?_;intro a7 hg ft hbox hb;obtain ⟨kR,nS,oz,oC,HB,a8,d6,bu,a9,ag,aa,aK,ab,ai⟩:=p_ (Kd.dw (Kd.O6 (aJ kR) a7 (Nat.le_of_eq hg.symm)) hb) <| vI (ak nS) (ak oz) (ak oC) au hb hbox hg;clear hb hbox hg;obtain ⟨ar,aW,av,aw,ax,bH⟩:=kJ ag a9 aK aa ai ab;have e6:=uw a8.out)|(go_at_call 46;(with_reducible refine (DV.calls k1 ((aC a5 a6).f0) a1 df _ (iK.below HD.out au) fg.out).mono ?_);rintro e fh ⟨rfl,hb⟩;have gy:=p_ (Kd.dw (by (with_reducible repeat (first|apply Kd.dB|apply Kd.dD|apply Kd.aZ));exact (Kd.bn (aH (aH (aH (Kd.bn kR.out (fun ay hk=>(⟨hk,hk.2⟩:_∧ay≠a7)))))) (fun _ dG=>dG.1))) hb) <| p_ (bZ (g:=bi) (o:=.cells #[.slice az aI.length b0] 28) (nO nS.out a9.out) hb) <| p_ (bZ (g:=b7) (o:=.cells #[.slice none 0 0] 28) (nO oz.out aa.out) hb) <| p_ (bZ (g:=aq) (o:=.cells #[.slice (some b8) a5.length aQ] 28) (nO oC.out ab.out) hb) <| p_ (bZ (g:=a7) (o:=.cells #[.string ((aC a5 a6).f0),.bool ((aC a5 a6).f1),.string ((aC a5 a6).f2)] 43) (yB a8.out) hb) <| a_ (dP au hb);clear kR nS oz oC a8 HB;obtain ⟨kR,nS,oz,oC,a8,HB⟩:=gy;(try clear hb);(try clear hk)))
 (try simp only [Act.put,List.setIfInBounds_toArray,List.set_cons_zero,List.set_cons_succ])
 (try clear an bo aW ao bq aw fB bp bH ar av ax)
 (try clear e6)
 obtain ⟨H⟩:=dg
 by_cases dt:df=true
 rotate_left
 ·replace dt:=Bool.eq_false_iff.mpr dt
  subst dt
  rw [if_neg iI] at H
  have H':=m_ H
  clear H
  go_wp2
  (try simp only [← uz])
  go_roundg k1
  case measure=>have:=gZ.out;omega
  case rel=>exact ⟨(wrap64 (a6+1)),(a5),bg,H',⟨ou⟩,⟨(by (try simp only [uz]);(with_reducible repeat (first|apply Kd.dB|apply Kd.dD|apply Kd.aZ));exact Kd.bn kR.out (fun _ hk=>trivial))⟩,⟨(by (try simp only [uz]);(with_reducible repeat (first|refine mW ?_ _|refine iD ?_|refine kU ?_ _));exact nS.out)⟩,⟨(by (try simp only [uz]);(with_reducible repeat (first|refine mW ?_ _|refine iD ?_|refine kU ?_ _));exact oz.out)⟩,⟨(by (try simp only [uz]);(with_reducible repeat (first|refine mW ?_ _|refine iD ?_|refine kU ?_ _));exact oC.out)⟩,⟨au⟩⟩
 subst dt
 rw [if_pos rfl] at H
 obtain ⟨tY,ev,H⟩:=jE H
 obtain ⟨ew,ex,H⟩:=jE H
 obtain ⟨bx,cg⟩:∃ y_:ByteArray,(((aC a5 a6).f0).extract ((a1.size:Int):Int).toNat ((aC a5 a6).f0).size)=y_:=⟨_,rfl⟩
 replace H:(if a2.size+bx.size≤9223372036854775807 then ((some (a2++bx:ByteArray)).bind fun b5=>(nI.l0 k1 a1 a2 (aN.length:Int) (wrap64 (a6+1)) (a5.set (a6:Int).toNat (⟨b5,(aC a5 a6).f1,(aC a5 a6).f2⟩:aF)))) else (none))=some r:=by rw [← cg];exact (Option.bind_some _ _).symm.trans H
 (try simp only [Int.toNat_natCast] at cg)
 obtain ⟨du,H⟩:=kV H
 have ey:=eq_true du
 have ez:=mM du
 try have f7:(9223372036854775807 < a2.size+bx.size)=False:=eq_false (Nat.not_lt.2 du)
 clear du
 obtain ⟨b5,ch⟩:∃ y_:ByteArray,(a2++bx)=y_:=⟨_,rfl⟩
 replace H:(nI.l0 k1 a1 a2 (aN.length:Int) (wrap64 (a6+1)) (a5.set (a6:Int).toNat (⟨b5,(aC a5 a6).f1,(aC a5 a6).f2⟩:aF)))=some r:=by rw [← ch];exact (Option.bind_some _ _).symm.trans H
 (try simp only [Int.toNat_natCast] at ch)
 obtain ⟨lN,bv⟩:∃ y_:List (aF),y_=(a5.set (a6:Int).toNat (⟨b5,(aC a5 a6).f1,(aC a5 a6).f2⟩:aF)):=⟨_,rfl⟩
 rw [← bv] at H
 have di:=m_ bv
 clear bv
 have H':=m_ H
 clear H
 try go_wp2
 obtain ⟨kR,nS,oz,oC,a8,HB⟩:=p_ (Kd.aZ kR.out) <| wV nS oz oC a8 HB
 have e9:0≤(a6:Int):=bF bG
 have ea:(a6:Int) < ((a5.length:Int):Int):=bF bG
 obtain ⟨b6,fi,dj,dk,eb,fj,dl⟩:=Kd.yQ kR.out (by omega)
 (first|cases dj|(injection dj with kQ uX uV;(first|subst kQ|(injection kQ with kQ;subst kQ));subst uV;clear uX))
 have ec:=m_ dk
 have ed:=m_ dl
 clear dk eb dl
 (first|simp only [add_plain] at ac|skip)
 (first|simp only [add_plain] at ae|skip)
 (first|simp only [add_plain] at af|skip)
 obtain ⟨fk,dm,lF,bb,bc⟩:=Kd.oP kR.out z43 (a6:Int) e9 ea
 obtain rfl:=oW lF
 have iO:World.cell? _ ⟨b6,(a6:Int).toNat * 3,none⟩=some (.string ((aC a5 a6).f0)):=bb 0 _ rfl
 have cv:World.cell? _ ⟨b6,(a6:Int).toNat * 3+1,none⟩=some (.bool ((aC a5 a6).f1)):=bb 1 _ rfl
 have cw:World.cell? _ ⟨b6,(a6:Int).toNat * 3+2,none⟩=some (.string ((aC a5 a6).f2)):=bb 2 _ rfl
 have cx:World.frozen? _ ⟨b6,(a6:Int).toNat * 3,none⟩=false:=bc 0
 have cy:World.frozen? _ ⟨b6,(a6:Int).toNat * 3+1,none⟩=false:=bc 1
 have cz:World.frozen? _ ⟨b6,(a6:Int).toNat * 3+2,none⟩=false:=bc 2
 clear dm bb bc lF
 replace e9:=eq_true e9
 replace ea:=eq_true ea
 obtain ⟨fl,ci,dp,cj,dq⟩:=Kd.oP kR.out z43 (a6:Int) (bF bG) (by have dG:(a6:Int) < ((a5.length:Int):Int):=bF bG;first|exact dG|(have e_:=(Kd.dN kR.out).1;omega)|simpa using dG)
 obtain rfl:=oW dp
 have OM:=(Kd.yc kR.out (a6:Int) (bF bG) (by have dG:(a6:Int) < ((a5.length:Int):Int):=bF bG;first|exact dG|(have e_:=(Kd.dN kR.out).1;omega)|simpa using dG) (seg:=[.string b5]) (j:=0) ci cj (show 1≤3 from by decide) (x':=(⟨b5,(aC a5 a6).f1,(aC a5 a6).f2⟩:aF)) (qp _ _ _ (⟨b5,(aC a5 a6).f1,(aC a5 a6).f2⟩:aF) ) (fun _ hk=>hk)).1
 rw [← di.out] at OM
 have U8:=m_ OM
 clear ci cj dq dp OM
 refine iT (n:=13) (S:=fun w'=>jQ w' aq (.slice (some ⟨b6,0,none⟩) a5.length aQ) <| A8 w' a7 (.string ((aC a5 a6).f0)) (.bool ((aC a5 a6).f1)) (.string ((aC a5 a6).f2))) (ds:=[12]) Dh aB rfl rfl ⟨(aP oC.out 0).trans rfl,sG a8.out⟩ (fun hH=>?_);refine kE nI.tab6 nI.IQ (fun aO fJ=>?_)
 generalize fh.drew=fu at kR nS oz oC a8 HB ed U8 cx cy cz ac ae af iO cv cw hH ⊢
 refine bV 0 ?_
 refine bV 2 ?_
 refine bV 3 ?_
 refine bV 4 ?_
 refine bV 6 ?_
 refine bV 7 ?_
 refine lg 1 hH ?_
 refine lg 5 hH ?_
 refine bV 8 ?_
 refine bV 9 ?_
 refine bV 10 ?_
 refine bV 11 ?_
 refine xQ 12 (fun K hK=>?_)
 refine iM (w1:=?_) (by rfl) rfl ?_ ?_
 rotate_left
 ·go_simp
  rfl
 refine hK.out _ _ ?_
 clear hK K
 refine iP (ku aO.out aB) ?_
 try go_wp2
 (try simp only [← uz])
 go_roundg k1
 case measure=>have:=gZ.out;omega
 case rel=>exact ⟨(wrap64 (a6+1)),(lN),bg,H',⟨ou⟩,⟨(by (try simp only [uz]);(with_reducible repeat (first|apply Kd.dB|apply Kd.dD|apply Kd.aZ));exact Kd.bn U8.out (fun _ hk=>trivial))⟩,⟨aaN⟩,⟨aaM⟩,⟨aaL⟩,⟨(by repeat (first|(with_reducible first|exact HB.out|apply mY|apply qN|apply lC|refine iF ?_ ec.out|refine iF ?_ bj.out|refine iF ?_ bl.out|refine iF ?_ bm.out|refine iF ?_ bu.out)|exact HB.out))⟩⟩

end Go.Proofs.YthejdhjpbpamoaaGreatDoor.jD
