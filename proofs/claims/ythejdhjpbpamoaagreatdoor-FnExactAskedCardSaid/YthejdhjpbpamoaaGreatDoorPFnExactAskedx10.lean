/- Calls return what the Lean functions beside them compute. Conditions: each theorem's own. -/
import Derived.Test.YthejdhjpbpamoaaGreatDoorPkFnExactAsked
import Derived.Test.YthejdhjpbpamoaaGreatDoorPFnExactAskedx2
import Derived.Test.YthejdhjpbpamoaaGreatDoorPFnExactAskedx5
import Derived.Test.YthejdhjpbpamoaaGreatDoorPFnExactAskedx7
namespace Go.Proofs.YthejdhjpbpamoaaGreatDoor.pU
open Go.RowKit Go.Proofs.YthejdhjpbpamoaaGreatDoorW.jk Go.Proofs.YthejdhjpbpamoaaGreatDoorW.qI Go.Proofs.YthejdhjpbpamoaaGreatDoorW.vV Go.Proofs.Tryz
attribute [local go_sem] yN yR yQ yU yP yT yO yS
set_option linter.unusedVariables false
set_option maxHeartbeats 8000000
set_option maxRecDepth 100000
set_option linter.unusedSimpArgs false

mutual
def pJ.l0:Nat→List (aF)→Int→Unit→Int→Int→Int→Option ((List (aF)))
 | 0,_,_,_,_,_,_=>none
 | k+1,x0,x1,x2,x6,x7,gZ=>if gZ≤x1 then ((kU.f k x0 x7 gZ x2).bind fun a5=>(pJ.l0 k a5 x1 x2 x6 gZ (wrap64 (gZ+x6)))) else ((kU.f k x0 x7 x1 x2).bind fun a6=>(pJ.l1 k a6 x1 x2 x6))
def pJ.l1:Nat→List (aF)→Int→Unit→Int→Option ((List (aF)))
 | 0,_,_,_,_=>none
 | k+1,x0,x1,x2,x6=>if x6 < x1 then (pJ.l2 k x0 x1 x2 x6 0 (wrap64 (2 * x6))) else (some x0)
def pJ.l2:Nat→List (aF)→Int→Unit→Int→Int→Int→Option ((List (aF)))
 | 0,_,_,_,_,_,_=>none
 | k+1,x0,x1,x2,x6,x7,gZ=>if gZ≤x1 then ((dS.f k x0 x7 (wrap64 (x7+x6)) gZ x2).bind fun a5=>(pJ.l2 k a5 x1 x2 x6 gZ (wrap64 (gZ+(wrap64 (2 * x6)))))) else (if (wrap64 (x7+x6)) < x1 then ((dS.f k x0 x7 (wrap64 (x7+x6)) x1 x2).bind fun a6=>(pJ.l1 k a6 x1 x2 (wrap64 (x6 * 2)))) else (pJ.l1 k x0 x1 x2 (wrap64 (x6 * 2))))
end
def pJ.f (k:Nat) (l0:List (aF)) (a1:Int) (a2:Unit):Option ((List (aF))):=pJ.l0 k l0 a1 a2 20 0 20
theorem pJ.calls (k:Nat) (dA:Nat→Prop) (gX:Value) (l0:List (aF)) (a1:Int) (a2:Unit) (r:List (aF)) (w0 w:World) (hB:Below w0.heap.size w0 w) (ho0:Kd.R aS 43 w w0.heap.size dA gX l0) (h:pJ.f k l0 a1 a2=some r) :
  Calls Tryz.prog 96 #[gX,ah a1,.func (.func 48) #[] #[]] w fun e w'=>e=.returned (.tuple #[])∧Kd.R aS 43 w' w0.heap.size (fun ak=>(dA ak∨w.heap.size≤ak)) gX r∧Below w0.heap.size w0 w'∧Kept w w' (fun ak=>dA ak):=by
 have aw:=m_ (show Kd.R aS 43 w w0.heap.size (fun ak=>(dA ak∨w.heap.size≤ak)) gX l0 from Kd.bF ho0 (fun ak hk=>(.inl hk)));have HK:=m_ (Kept.refl w (fun ak=>dA ak));have HW0:=m_ hB.size;have HB:=m_ hB;clear hB;unfold pJ.f at h
 have H:=h;clear h;have H':=m_ H;clear H;go_enter func96,ntmps96
 go_wp2
 go_loopg [7,8] k (fun kq v7 v8 w'=>∃ (a6:List (aF)) (aa:Int) (dw:Int),v7=ah aa∧v8=ah dw∧aA (pJ.l0 kq a6 a1 a2 20 aa dw=some r)∧aA (kq≤k)∧aA (Kd.R aS 43 w' w0.heap.size (fun ak=>(dA ak∨w.heap.size≤ak)) gX a6)∧aA (Kept w w' (fun ak=>dA ak))∧aA (Below w0.heap.size w0 w'))
 case atStart=>exact ⟨(l0),(0),(20),bC,bC,H',⟨Nat.le_refl _⟩,⟨(aN aw)⟩,⟨iw⟩,⟨ay⟩⟩
 case round =>
 clear H';obtain ⟨a6,aa,dw,rfl,rfl,HA,gG,bn,HK,HB⟩:=hrel;cases gk with
 | zero=>exact absurd HA.out (by simp [pJ.l0])
 | succ k1 =>
 obtain ⟨H⟩:=HA;simp only [pJ.l0] at H
 revert H;refine fB (fun aK H=>?_) fun aK H=>?_
 ·obtain ⟨am,A5,H⟩:=bd_ H;have H':=m_ H;clear H;obtain ⟨aT,av,ax⟩:=Kd.dN bn.out;subst ax;go_wp2_with (first|((with_reducible refine cu 132 ?_);refine cO (some 18) rfl rfl func132 aC rfl #[.slice aT a6.length av,ah aa,ah dw,.func (.func 48) #[] #[]] rfl bJ ?_;(with_reducible refine (kU.calls k1 (fun ak=>some ak=(.slice aT a6.length av:Value).ownBlock) (.slice aT a6.length av) a6 aa dw a2 am w0 _ ay (Kd.rH rfl bn.out) A5.out).mono ?_);rintro e w7 ⟨rfl,ab,hb,hkp⟩;refine ⟨_,rfl,?_⟩;obtain ⟨bn,HK,HB⟩:=p_ (Kd.uV rfl ab (fun ak e_=>bn.out.1 ak e_)) <| p_ (Kept.then_ (S:=(fun ak=>dA ak)) iw hkp (fun ak hs_=>(fun e_=>(bn.out.1 ak e_.symm)) hs_)) <| a_ (hb);(try clear hb);(try clear hkp);(try clear ab)))
  go_roundg k1
  case measure=>have:=gG.out;omega
  case rel=>exact ⟨(am),(dw),(wrap64 (dw+20)),bC,bC,H',⟨oz⟩,⟨(aN bn)⟩,⟨iw⟩,⟨ay⟩⟩
 obtain ⟨an,Ko,H⟩:=bd_ H;have H':=m_ H;clear H;obtain ⟨ac,ae,bD⟩:=Kd.dN bn.out;subst bD;go_wp2_with (first|((with_reducible refine cu 132 ?_);refine cO (some 27) rfl rfl func132 aC rfl #[.slice ac a6.length ae,ah aa,ah a1,.func (.func 48) #[] #[]] rfl bJ ?_;(with_reducible refine (kU.calls k1 (fun ak=>some ak=(.slice ac a6.length ae:Value).ownBlock) (.slice ac a6.length ae) a6 aa a1 a2 an w0 _ ay (Kd.rH rfl bn.out) Ko.out).mono ?_);rintro e b1 ⟨rfl,ab,hb,hkp⟩;refine ⟨_,rfl,?_⟩;obtain ⟨bn,HK,HB⟩:=p_ (Kd.uV rfl ab (fun ak e_=>bn.out.1 ak e_)) <| p_ (Kept.then_ (S:=(fun ak=>dA ak)) iw hkp (fun ak hs_=>(fun e_=>(bn.out.1 ak e_.symm)) hs_)) <| a_ (hb);(try clear hb);(try clear hkp);(try clear ab)))
 (try simp only [fM])
 go_loopg [6] k1 (fun kq v6 w'=>∃ (af:List (aF)) (a5:Int),v6=ah a5∧aA (pJ.l1 kq af a1 a2 a5=some r)∧aA (kq≤k1)∧aA (Kd.R aS 43 w' w0.heap.size (fun ak=>(dA ak∨w.heap.size≤ak)) (.slice ac a6.length ae) af)∧aA (Kept w w' (fun ak=>dA ak))∧aA (Below w0.heap.size w0 w'))
 case atStart=>exact ⟨(an),(20),bC,H',⟨Nat.le_refl _⟩,⟨(aN bn)⟩,⟨iw⟩,⟨ay⟩⟩
 case round =>
 clear H';try clear c4;try clear aK
 obtain ⟨af,a5,rfl,HA,kS,bn,HK,HB⟩:=hrel;have E5:=(Kd.dn bn.out).1;rw [E5] at bn;(try simp only [E5])
 cases gk with
 | zero=>exact absurd HA.out (by simp [pJ.l1])
 | succ k2 =>
 obtain ⟨H⟩:=HA;simp only [pJ.l1] at H
 revert H;refine fB (fun ag H=>?_) fun ag H=>?_;rotate_left
 ·obtain rfl:=bQ H;go_wp2
  first|go_end0|((try simp only [Exit.inBlock,Exit.then]);refine bodyPost_ret (results_none rfl _ _ _) rfl ?_)
  exact ⟨bK,(by first|exact (aN bn)|(simp only [E5];exact (aN bn))),ay,iw⟩
 have H':=m_ H;clear H;go_wp2
 go_loopg [7,8] k2 (fun kq v7 v8 w'=>∃ (a7:List (aF)) (a8:Int) (a9:Int),v7=ah a8∧v8=ah a9∧aA (pJ.l2 kq a7 a1 a2 a5 a8 a9=some r)∧aA (kq≤k2)∧aA (Kd.R aS 43 w' w0.heap.size (fun ak=>(dA ak∨w.heap.size≤ak)) (.slice ac af.length ae) a7)∧aA (Kept w w' (fun ak=>dA ak))∧aA (Below w0.heap.size w0 w'))
 case atStart=>exact ⟨(af),(0),(wrap64 (2 * a5)),bC,bC,H',⟨Nat.le_refl _⟩,⟨(by (try simp only [E5]);(with_reducible repeat (first|apply Kd.bW|apply Kd.bY|apply Kd.bH));exact bn.out)⟩,⟨iw⟩,⟨ay⟩⟩
 case round =>
 clear H';try clear ai;try clear ag
 obtain ⟨a7,a8,a9,rfl,rfl,HA,aH,bn,HK,HB⟩:=hrel;have Jo:=(Kd.dn bn.out).1;rw [Jo] at bn;(try simp only [Jo])
 cases gk with
 | zero=>exact absurd HA.out (by simp [pJ.l2])
 | succ k3 =>
 obtain ⟨H⟩:=HA;simp only [pJ.l2] at H
 revert H;refine fB (fun ao H=>?_) fun ao H=>?_
 ·obtain ⟨ap,az,H⟩:=bd_ H;have H':=m_ H;clear H;go_wp2_with (first|((with_reducible refine cu 133 ?_);refine cO (some 43) rfl rfl func133 aC rfl #[.slice ac a7.length ae,ah a8,ah (wrap64 (a8+a5)),ah a9,.func (.func 48) #[] #[]] rfl bJ ?_;(with_reducible refine (dS.calls k3 (fun ak=>some ak=(.slice ac a7.length ae:Value).ownBlock) (.slice ac a7.length ae) a7 a8 (wrap64 (a8+a5)) a9 a2 ap w0 _ ay (Kd.rH rfl bn.out) az.out).mono ?_);rintro e b2 ⟨rfl,ab,hb,hkp⟩;refine ⟨_,rfl,?_⟩;obtain ⟨bn,HK,HB⟩:=p_ (Kd.uV rfl ab (fun ak e_=>bn.out.1 ak e_)) <| p_ (Kept.then_ (S:=(fun ak=>dA ak)) iw hkp (fun ak hs_=>(fun e_=>(bn.out.1 ak e_.symm)) hs_)) <| a_ (hb);(try clear hb);(try clear hkp);(try clear ab)))
  (try simp only [← Jo])
  go_roundg k3
  case measure=>have:=gG.out;have:=kS.out;have:=aH.out;omega
  case rel=>exact ⟨(ap),(a9),(wrap64 (a9+(wrap64 (2 * a5)))),bC,bC,H',⟨(by have:=gG.out;have:=kS.out;have:=aH.out;omega)⟩,⟨W_⟩,⟨iw⟩,⟨ay⟩⟩
 revert H;refine fB (fun aq H=>?_) fun aq H=>?_;rotate_left
 ·have H':=m_ H;clear H;go_wp2
  (try simp only [← E5,← Jo])
  go_roundg k3
  case measure=>have:=gG.out;have:=kS.out;have:=aH.out;omega
  case rel=>exact ⟨(a7),(wrap64 (a5 * 2)),bC,H',⟨(by have:=gG.out;have:=kS.out;have:=aH.out;omega)⟩,⟨W_⟩,⟨iw⟩,⟨ay⟩⟩
 obtain ⟨ar,b0,H⟩:=bd_ H;have H':=m_ H;clear H;go_wp2_with (first|((with_reducible refine cu 133 ?_);refine cO (some 60) rfl rfl func133 aC rfl #[.slice ac a7.length ae,ah a8,ah (wrap64 (a8+a5)),ah a1,.func (.func 48) #[] #[]] rfl bJ ?_;(with_reducible refine (dS.calls k3 (fun ak=>some ak=(.slice ac a7.length ae:Value).ownBlock) (.slice ac a7.length ae) a7 a8 (wrap64 (a8+a5)) a1 a2 ar w0 _ ay (Kd.rH rfl bn.out) b0.out).mono ?_);rintro e b3 ⟨rfl,ab,hb,hkp⟩;refine ⟨_,rfl,?_⟩;obtain ⟨bn,HK,HB⟩:=p_ (Kd.uV rfl ab (fun ak e_=>bn.out.1 ak e_)) <| p_ (Kept.then_ (S:=(fun ak=>dA ak)) iw hkp (fun ak hs_=>(fun e_=>(bn.out.1 ak e_.symm)) hs_)) <| a_ (hb);(try clear hb);(try clear hkp);(try clear ab)))
 (try simp only [← E5,← Jo])
 go_roundg k3
 case measure=>have:=gG.out;have:=kS.out;have:=aH.out;omega
 case rel=>exact ⟨(ar),(wrap64 (a5 * 2)),bC,H',⟨(by have:=gG.out;have:=kS.out;have:=aH.out;omega)⟩,⟨W_⟩,⟨iw⟩,⟨ay⟩⟩

def FZ.f (k:Nat) (l0:List (aF)) (a1:Unit):Option ((List (aF))):=(pJ.f k l0 (l0.length:Int) a1).bind fun a5=>(some a5)
theorem FZ.calls (k:Nat) (dA:Nat→Prop) (gX:Value) (l0:List (aF)) (a1:Unit) (r:List (aF)) (w0 w:World) (hB:Below w0.heap.size w0 w) (ho0:Kd.R aS 43 w w0.heap.size dA gX l0) (h:FZ.f k l0 a1=some r) :
  Calls Tryz.prog 47 #[gX,.func (.func 48) #[] #[]] w fun e w'=>e=.returned (.tuple #[])∧Kd.R aS 43 w' w0.heap.size (fun ak=>(dA ak∨w.heap.size≤ak)) gX r∧Below w0.heap.size w0 w'∧Kept w w' (fun ak=>dA ak):=by
 have a5:=m_ (show Kd.R aS 43 w w0.heap.size (fun ak=>(dA ak∨w.heap.size≤ak)) gX l0 from Kd.bF ho0 (fun ak hk=>(.inl hk)));have HK:=m_ (Kept.refl w (fun ak=>dA ak));have HW0:=m_ hB.size;have HB:=m_ hB;clear hB;unfold FZ.f at h
 have H:=h;clear h;obtain ⟨a6,A3,H⟩:=bd_ H;obtain rfl:=bQ H;obtain ⟨a7,a8,aa⟩:=Kd.dN a5.out;subst aa;go_enter func47,ntmps47
 go_wp2_with (first|((with_reducible refine cu 96 ?_);refine cO (some 8) rfl rfl func96 aC rfl #[.slice a7 l0.length a8,ah (l0.length:Int),.func (.func 48) #[] #[]] rfl bJ ?_;(with_reducible refine (pJ.calls k (fun ak=>some ak=(.slice a7 l0.length a8:Value).ownBlock) (.slice a7 l0.length a8) l0 (l0.length:Int) a1 a6 w0 _ ay (Kd.rH rfl a5.out) A3.out).mono ?_);rintro e w5 ⟨rfl,a9,hb,hkp⟩;refine ⟨_,rfl,?_⟩;obtain ⟨a5,HK,HB⟩:=p_ (Kd.uV rfl a9 (fun ak e_=>a5.out.1 ak e_)) <| p_ (Kept.then_ (S:=(fun ak=>dA ak)) iw hkp (fun ak hs_=>(fun e_=>(a5.out.1 ak e_.symm)) hs_)) <| a_ (hb);(try clear hb);(try clear hkp);(try clear a9)))
 first|go_end0|((try simp only [Exit.inBlock,Exit.then]);refine bodyPost_ret (results_none rfl _ _ _) rfl ?_)
 exact ⟨bK,(aN a5),ay,iw⟩

def mJ.l0:Nat→ByteArray→ByteArray→Int→Int→List (aF)→Option ((List (aF)))
 | 0,_,_,_,_,_=>none
 | k+1,x1,x2,a9,a6,a5=>if a6 < a9 then (if 0≤a6 then (if a6 < (a5.length:Int) then (if ((aB a5 a6).f0).toList=x1.toList then (if 0≤(x1.size:Int) then (if (x1.size:Int)≤(((aB a5 a6).f0).size:Int) then ((some (((aB a5 a6).f0).extract ((x1.size:Int):Int).toNat ((aB a5 a6).f0).size:ByteArray)).bind fun a7=>(if x2.size+a7.size≤9223372036854775807 then ((some (x2++a7:ByteArray)).bind fun aa=>(mJ.l0 k x1 x2 a9 (wrap64 (a6+1)) (a5.set (a6:Int).toNat (⟨aa,(aB a5 a6).f1,(aB a5 a6).f2⟩:aF)))) else (none))) else (none)) else (none)) else ((Ce.f k ((aB a5 a6).f0) x1).bind fun ab=>(if ab=true then (if 0≤(x1.size:Int) then (if (x1.size:Int)≤(((aB a5 a6).f0).size:Int) then ((some (((aB a5 a6).f0).extract ((x1.size:Int):Int).toNat ((aB a5 a6).f0).size:ByteArray)).bind fun a8=>(if x2.size+a8.size≤9223372036854775807 then ((some (x2++a8:ByteArray)).bind fun ac=>(mJ.l0 k x1 x2 a9 (wrap64 (a6+1)) (a5.set (a6:Int).toNat (⟨ac,(aB a5 a6).f1,(aB a5 a6).f2⟩:aF)))) else (none))) else (none)) else (none)) else (mJ.l0 k x1 x2 a9 (wrap64 (a6+1)) a5)))) else (none)) else (none)) else ((FZ.f k a5 ()).bind fun ae=>(some ae))
def mJ.f (k:Nat) (a6:List (aF)) (a1:ByteArray) (a2:ByteArray):Option ((List (aF))):=(wF.f a6).bind fun a5=>(mJ.l0 k a1 a2 (a5.length:Int) 0 a5)
def mJ.T6:Bool × List (List Nat × List Nat):=(true,[([],[]),([0],[0]),([],[]),([],[]),([],[]),([4],[4]),([],[]),([6],[6]),([5,7],[5,7]),([3,8],[3,8]),([1,2,0,1,2,3,4,5,6,7,8,9],[1,2]),([10,0,1,2,3,4,5,6,7,8,9],[10]),([11,9,0,1,2,3,4,5,6,7,8,9],[9,11])])
def mJ.B6:List Nat:=[0,1,0,0,0,16,0,64,240,504,1023,2047,4095]
theorem mJ.tab6:kZ .any (opsOf Tryz.f9 6)=mJ.T6:=by kernel_rfl
theorem mJ.KO:vF mJ.T6.2 mJ.B6=true:=by kernel_rfl
theorem mJ.calls (k:Nat) (az:Option Addr) (b0:Nat) (aI:List (aF)) (a1:ByteArray) (a2:ByteArray) (r:List (aF)) (w:World) (kN:jg w) (bz:Kd.C aS w az aI.length aI) (ca:aI.length≤b0) (h:mJ.f k aI a1 a2=some r) :
  Calls Tryz.prog 9 #[.agg #[.slice az aI.length b0],.string a1,.string a2] w fun e w'=>∃ fC:Value,e=.returned (.agg #[fC])∧Kd.R aS 43 w' w.heap.size (fun _=>True) fC r∧Below w.heap.size w w':=by
 have nT:=underlying28;have tX:=underlying43;have lg:=m_ bz;have d1:=m_ ca;clear bz ca;have HD:=m_ kN;clear kN;have HB:=m_ (Below.refl w.heap.size w);unfold mJ.f at h
 have H:=h;clear h;obtain ⟨aH,A4,H⟩:=bd_ H;have H':=m_ H;clear H;go_enter func9,ntmps9
 go_wp2_with (first|((with_reducible refine dJ 3 ?_);refine dO 3 (cs:=#[.slice az aI.length b0]) 28 ?_;intro bi hg w5 hbox hb;obtain ⟨HB,pY,ee,bj⟩:=jR ay hb hbox hg;clear hb hbox hg)|((with_reducible refine dJ 6 ?_);refine dO 6 (cs:=#[.slice none 0 0]) 28 ?_;intro b7 hg w6 hbox hb;obtain ⟨pY,HB,qx,ef,bl,al,am⟩:=oO (au pY) ay hb hbox hg;clear hb hbox hg;obtain ⟨an,ao⟩:=gy al am;have y7:=bZ pY.out)|((with_reducible refine cu 45 ?_);refine cO (some 11) rfl rfl func45 aC rfl #[.agg #[.slice az aI.length b0]] rfl bJ ?_;(with_reducible refine (wF.calls _ _ aI aH _ qp d1.out A4.out).mono ?_);rintro e w9 ⟨aCU,rfl,ho0,hb⟩;refine ⟨_,rfl,?_⟩;obtain ⟨ap,pY,qx,HB⟩:=p_ (Kd.dR ho0 (bU ay)) <| Hl (au pY) (au qx) ay hb;(try clear hb);(try clear ho0))|((with_reducible refine dJ 7 ?_);refine dO 7 (cs:=#[.slice none 0 0]) 28 ?_;intro aq hg fk hbox hb;obtain ⟨ap,pY,qx,HB,qy,eh,bm,bd,be,fA,dL⟩:=p_ (Kd.bG (aN ap) hb) <| rP (au pY) (au qx) ay hb hbox hg;clear hb hbox hg;obtain ⟨bh,aO,dv⟩:=Kd.dN ap.out;subst dv;obtain ⟨fG,bo,bp,bq⟩:=iD be bd dL fA;have QG:=bZ qy.out))
 (try simp only [fM])
 go_loopg [15] k (fun kq v15 w'=>∃ (a6:Int) (a5:List (aF)),v15=ah a6∧aA (mJ.l0 kq a1 a2 (aH.length:Int) a6 a5=some r)∧aA (kq≤k)∧aA (Kd.R aS 43 w' w.heap.size (fun _=>True) (.slice bh aH.length aO) a5)∧aA (w'.heap[bi]?=some (.cells #[(.slice az aI.length b0)] 28))∧aA (w'.heap[b7]?=some (.cells #[(.slice none 0 0)] 28))∧aA (w'.heap[aq]?=some (.cells #[(.slice bh aH.length aO)] 28))∧aA (Below w.heap.size w w'))
 case atStart=>exact ⟨(0),(aH),bC,H',⟨Nat.le_refl _⟩,⟨(by (with_reducible repeat (first|apply Kd.bW|apply Kd.bY|apply Kd.bH));exact Kd.bF (aJ (Kd.bV ap.out qy.out (by decide))) (fun _ hk=>trivial))⟩,⟨bf⟩,⟨bf⟩,⟨bf⟩,⟨ay⟩⟩
 case round =>
 clear H';try clear QG;try clear y7;try clear QG;try clear y7
 obtain ⟨a6,a5,rfl,HA,gG,lQ,pY,qx,qy,HB⟩:=hrel;have uZ:=(Kd.dn lQ.out).1;rw [uZ] at lQ;(try simp only [uZ])
 (try simp only [uZ] at pY)
 (try simp only [uZ] at qx)
 (try simp only [uZ] at qy)
 cases gk with
 | zero=>exact absurd HA.out (by simp [mJ.l0])
 | succ k1 =>
 obtain ⟨H⟩:=HA;simp only [mJ.l0] at H
 revert H;refine eU (fun d0 H=>?_) fun d0 H=>?_;rotate_left
 ·have br:=wQ d0;(try simp only [uZ] at br)
  clear d0;obtain ⟨lC,f4,H⟩:=bd_ H;obtain rfl:=bQ H;have aeb:=bZ qy.out;go_wp2_with (first|((with_reducible refine cu 47 ?_);refine cO (some 45) rfl rfl func47 aC rfl #[.slice bh a5.length aO,.func (.func 48) #[] #[]] rfl bJ ?_;(with_reducible refine (FZ.calls k1 (fun ak=>some ak=(.slice bh a5.length aO:Value).ownBlock) (.slice bh a5.length aO) a5 () lC w _ ?jW (Kd.rH rfl lQ.out) f4.out).mono ?_);(case jW=>repeat (first|(with_reducible first|exact HB.out|apply sK|apply xB|apply nZ|refine jy ?_ bj.out|refine jy ?_ bl.out|refine jy ?_ bm.out)|exact HB.out));rintro e fo ⟨rfl,ei,hb,hkp⟩;refine ⟨_,rfl,?_⟩;obtain ⟨lQ,pY,qx,qy,HB⟩:=p_ (Kd.uV rfl ei (fun ak e_=>lQ.out.1 ak e_)) <| p_ (mO (au pY) hkp (fun hs_=>(fun e_=>(Kd.fD lQ.out pY.out (by decide)) e_) hs_)) <| p_ (mO (au qx) hkp (fun hs_=>(fun e_=>(Kd.fD lQ.out qx.out (by decide)) e_) hs_)) <| p_ (mO (au qy) hkp (fun hs_=>(fun e_=>(Kd.fD lQ.out qy.out (by decide)) e_) hs_)) <| a_ (hb);(try clear hb);(try clear hkp);(try clear ei);have aec:=bZ qy.out;obtain ⟨ao,an⟩:=gy am al;have aEJ:=bZ qx.out))
  refine bodyPost_ret (results_cell_row rfl _ _ b7 28 #[.slice bh a5.length aO] (0,0) _ rfl bf underlying28 rfl aC) rfl ?_;exact ⟨_,bK,(by (with_reducible repeat (first|apply Kd.bW|apply Kd.bY|apply Kd.bH));exact Kd.bF (aJ (Kd.bV lQ.out qx.out (by decide))) (fun _ hk=>trivial)),ay⟩
 have br:=nJ d0;(try simp only [uZ] at br)
 clear d0;obtain ⟨ek,H⟩:=gI H;obtain ⟨em,H⟩:=gI H;revert H;refine eU (fun ck H=>?_) fun ck H=>?_
 ·have d2:=fU ck;have d3:=fV ck;clear ck;obtain ⟨en,eo,H⟩:=jF H;obtain ⟨ep,eq,H⟩:=jF H;obtain ⟨bw,cc⟩:∃ y_:ByteArray,(((aB a5 a6).f0).extract ((a1.size:Int):Int).toNat ((aB a5 a6).f0).size)=y_:=⟨_,rfl⟩;replace H:(if a2.size+bw.size≤9223372036854775807 then ((some (a2++bw:ByteArray)).bind fun b1=>(mJ.l0 k1 a1 a2 (aH.length:Int) (wrap64 (a6+1)) (a5.set (a6:Int).toNat (⟨b1,(aB a5 a6).f1,(aB a5 a6).f2⟩:aF)))) else (none))=some r:=by rw [← cc];exact (Option.bind_some _ _).symm.trans H
  (try simp only [Int.toNat_natCast] at cc)
  obtain ⟨dr,H⟩:=lT H;have er:=eq_true dr;have es:=nJ dr;try have et:(9223372036854775807 < a2.size+bw.size)=False:=eq_false (Nat.not_lt.2 dr)
  clear dr;obtain ⟨b1,cd⟩:∃ y_:ByteArray,(a2++bw)=y_:=⟨_,rfl⟩;replace H:(mJ.l0 k1 a1 a2 (aH.length:Int) (wrap64 (a6+1)) (a5.set (a6:Int).toNat (⟨b1,(aB a5 a6).f1,(aB a5 a6).f2⟩:aF)))=some r:=by rw [← cd];exact (Option.bind_some _ _).symm.trans H
  (try simp only [Int.toNat_natCast] at cd)
  obtain ⟨d4,bs⟩:∃ y_:List (aF),y_=(a5.set (a6:Int).toNat (⟨b1,(aB a5 a6).f1,(aB a5 a6).f2⟩:aF)):=⟨_,rfl⟩;rw [← bs] at H;have d5:=m_ bs;clear bs;have H':=m_ H;clear H;have b2:0≤(a6:Int):=aX aY;have b3:a6 < (a5.length:Int):=aX aY;obtain ⟨b8,cl,ac,ae,af⟩:=jV (Kd.dn lQ.out).2.2 a6 b2 b3;cases cl;replace b2:=eq_true b2;replace b3:=eq_true b3;try go_wp2_with (first|((with_reducible refine dJ 9 ?_);refine dO 9 (cs:=#[.string (⟨#[]⟩:ByteArray),.bool false,.string (⟨#[]⟩:ByteArray)]) 43 ?_;intro a7 hg cm hbox hb;obtain ⟨lQ,pY,qx,qy,HB,a8,d6,bu,a9,ag,aa,aK,ab,ai⟩:=p_ (Kd.bG (Kd.Rt (aN lQ) a7 (Nat.le_of_eq hg.symm)) hb) <| zl (au pY) (au qx) (au qy) ay hb hbox hg;clear hb hbox hg;obtain ⟨ar,aT,av,aw,ax,bD⟩:=lU ag a9 aK aa ai ab;have f7:=qj a8.out))
  have dH:aA (Kd.R aS 43 (((cm.setCell ⟨a7,0,none⟩ (.string ((aB a5 a6).f0))).setCell ⟨a7,1,none⟩ (.bool ((aB a5 a6).f1))).setCell ⟨a7,2,none⟩ (.string ((aB a5 a6).f2))) w.heap.size (fun ak=>ak≠a7) (.slice (some b8) a5.length aO) a5):=⟨(by (with_reducible repeat (first|apply Kd.bW|apply Kd.bY|apply Kd.bH));exact Kd.bF (aJ (aJ (aJ (Kd.bF lQ.out (fun ak hk=>(⟨hk,hk.2⟩:_∧ak≠a7)))))) (fun _ hk=>hk.1.2))⟩;have ng:aA ((((cm.setCell ⟨a7,0,none⟩ (.string ((aB a5 a6).f0))).setCell ⟨a7,1,none⟩ (.bool ((aB a5 a6).f1))).setCell ⟨a7,2,none⟩ (.string ((aB a5 a6).f2))).heap[bi]?=some (.cells #[.slice az aI.length b0] 28)):=⟨bf⟩;have ni:aA ((((cm.setCell ⟨a7,0,none⟩ (.string ((aB a5 a6).f0))).setCell ⟨a7,1,none⟩ (.bool ((aB a5 a6).f1))).setCell ⟨a7,2,none⟩ (.string ((aB a5 a6).f2))).heap[b7]?=some (.cells #[.slice none 0 0] 28)):=⟨bf⟩;have ny:aA ((((cm.setCell ⟨a7,0,none⟩ (.string ((aB a5 a6).f0))).setCell ⟨a7,1,none⟩ (.bool ((aB a5 a6).f1))).setCell ⟨a7,2,none⟩ (.string ((aB a5 a6).f2))).heap[aq]?=some (.cells #[.slice (some b8) a5.length aO] 28)):=⟨bf⟩;have nC:aA ((((cm.setCell ⟨a7,0,none⟩ (.string ((aB a5 a6).f0))).setCell ⟨a7,1,none⟩ (.bool ((aB a5 a6).f1))).setCell ⟨a7,2,none⟩ (.string ((aB a5 a6).f2))).heap[a7]?=some (.cells #[.string ((aB a5 a6).f0),.bool ((aB a5 a6).f1),.string ((aB a5 a6).f2)] 43)):=⟨bf⟩;have nD:aA (Below w.heap.size w (((cm.setCell ⟨a7,0,none⟩ (.string ((aB a5 a6).f0))).setCell ⟨a7,1,none⟩ (.bool ((aB a5 a6).f1))).setCell ⟨a7,2,none⟩ (.string ((aB a5 a6).f2)))):=⟨ay⟩;(try clear lQ)
  (try clear pY)
  (try clear qx)
  (try clear qy)
  (try clear a8)
  (try clear HB)
  generalize (((cm.setCell ⟨a7,0,none⟩ (.string ((aB a5 a6).f0))).setCell ⟨a7,1,none⟩ (.bool ((aB a5 a6).f1))).setCell ⟨a7,2,none⟩ (.string ((aB a5 a6).f2)))=f8 at dH ng ni ny nC nD ⊢;have lQ:=dH;have pY:=ng;have qx:=ni;have qy:=ny;have a8:=nC;have HB:=nD;clear dH ng ni ny nC nD;obtain ⟨lQ,pY,qx,qy,a8,HB⟩:=p_ (Kd.bH lQ.out) <| yG pY qx qy a8 HB;have dz:0≤(a6:Int):=aX aY;have e0:(a6:Int) < ((a5.length:Int):Int):=aX aY;obtain ⟨b4,fa,d7,d8,e3,fb,d9⟩:=Kd.xQ lQ.out (by omega);(first|cases d7|(injection d7 with jA sQ sO;(first|subst jA|(injection jA with jA;subst jA));subst sO;clear sQ))
  have e4:=m_ d8;have e5:=m_ d9;clear d8 e3 d9;(first|simp only [add_plain] at ac|skip)
  (first|simp only [add_plain] at ae|skip)
  (first|simp only [add_plain] at af|skip)
  obtain ⟨fc,da,db,b9,ba⟩:=Kd.nX lQ.out z43 (a6:Int) dz e0;obtain rfl:=og db;have cn:World.cell? _ ⟨b4,(a6:Int).toNat * 3,none⟩=some (.string ((aB a5 a6).f0)):=b9 0 _ rfl;have co:World.cell? _ ⟨b4,(a6:Int).toNat * 3+1,none⟩=some (.bool ((aB a5 a6).f1)):=b9 1 _ rfl;have cp:World.cell? _ ⟨b4,(a6:Int).toNat * 3+2,none⟩=some (.string ((aB a5 a6).f2)):=b9 2 _ rfl;have cq:World.frozen? _ ⟨b4,(a6:Int).toNat * 3,none⟩=false:=ba 0;have cr:World.frozen? _ ⟨b4,(a6:Int).toNat * 3+1,none⟩=false:=ba 1;have ct:World.frozen? _ ⟨b4,(a6:Int).toNat * 3+2,none⟩=false:=ba 2;clear da b9 ba db;replace dz:=eq_true dz;replace e0:=eq_true e0;obtain ⟨fd,ce,dd,cf,de⟩:=Kd.nX lQ.out z43 (a6:Int) (aX aY) (by have bI:(a6:Int) < ((a5.length:Int):Int):=aX aY;first|exact bI|(have e_:=(Kd.dn lQ.out).1;omega)|simpa using bI);obtain rfl:=og dd;have En:=(Kd.vW lQ.out (a6:Int) (aX aY) (by have bI:(a6:Int) < ((a5.length:Int):Int):=aX aY;first|exact bI|(have e_:=(Kd.dn lQ.out).1;omega)|simpa using bI) (seg:=[.string b1]) (j:=0) ce cf (show 1≤3 from by decide) (x':=(⟨b1,(aB a5 a6).f1,(aB a5 a6).f2⟩:aF)) (qU _ _ _ (⟨b1,(aB a5 a6).f1,(aB a5 a6).f2⟩:aF) ) (fun _ hk=>hk)).1;rw [← d5.out] at En;have Ky:=m_ En;clear ce cf de dd En;refine iU (n:=13) (S:=fun w'=>jE w' aq (.slice (some ⟨b4,0,none⟩) a5.length aO) <| Di w' a7 (.string ((aB a5 a6).f0)) (.bool ((aB a5 a6).f1)) (.string ((aB a5 a6).f2))) (ds:=[12]) Dw aC rfl rfl ⟨(aQ qy.out 0).trans rfl,tK a8.out⟩ (fun hH=>?_);refine kF mJ.tab6 mJ.KO (fun aP fK=>?_);generalize f8.drew=fp at lQ pY qx qy a8 HB e5 Ky cq cr ct cn co cp ac ae af hH ⊢;refine bM 0 ?_;refine bM 2 ?_;refine bM 3 ?_;refine bM 4 ?_;refine bM 6 ?_;refine bM 7 ?_;refine kE 1 hH ?_;refine kE 5 hH ?_;refine bM 8 ?_;refine bM 9 ?_;refine bM 10 ?_;refine bM 11 ?_;refine zI 12 (fun K hK=>?_);refine jD (w1:=?_) (by rfl) rfl ?_ ?_;rotate_left
  ·go_simp
   rfl
  refine hK.out _ _ ?_;clear hK K;refine jd (kC aP.out aC) ?_;try go_wp2
  (try simp only [← uZ])
  go_roundg k1
  case measure=>have:=gG.out;omega
  case rel=>exact ⟨(wrap64 (a6+1)),(d4),bC,H',⟨oz⟩,⟨(by (try simp only [uZ]);(with_reducible repeat (first|apply Kd.bW|apply Kd.bY|apply Kd.bH));exact Kd.bF Ky.out (fun _ hk=>trivial))⟩,⟨adW⟩,⟨adV⟩,⟨adU⟩,⟨(by repeat (first|(with_reducible first|exact HB.out|apply sK|apply xB|apply nZ|refine jy ?_ e4.out|refine jy ?_ bj.out|refine jy ?_ bl.out|refine jy ?_ bm.out|refine jy ?_ bu.out)|exact HB.out))⟩⟩
 have d2:=fZ ck;have d3:=f_ ck;obtain ⟨df,fe,H⟩:=bd_ H;have dg:=m_ H;clear H;have b2:0≤(a6:Int):=aX aY;have b3:a6 < (a5.length:Int):=aX aY;obtain ⟨b8,cl,ac,ae,af⟩:=jV (Kd.dn lQ.out).2.2 a6 b2 b3;cases cl;replace b2:=eq_true b2;replace b3:=eq_true b3;go_upto_if 29 with (first|((with_reducible refine dJ 9 ?_);refine dO 9 (cs:=#[.string (⟨#[]⟩:ByteArray),.bool false,.string (⟨#[]⟩:ByteArray)]) 43 ?_;intro a7 hg fq hbox hb;obtain ⟨lQ,pY,qx,qy,HB,a8,d6,bu,a9,ag,aa,aK,ab,ai⟩:=p_ (Kd.bG (Kd.Rt (aN lQ) a7 (Nat.le_of_eq hg.symm)) hb) <| zl (au pY) (au qx) (au qy) ay hb hbox hg;clear hb hbox hg;obtain ⟨ar,aT,av,aw,ax,bD⟩:=lU ag a9 aK aa ai ab;have e6:=qj a8.out)|(go_at_call 46;(with_reducible refine (Ce.calls k1 ((aB a5 a6).f0) a1 df _ (jg.below HD.out ay) fe.out).mono ?_);rintro e ff ⟨rfl,hb⟩;have ji:=p_ (Kd.bG (by (with_reducible repeat (first|apply Kd.bW|apply Kd.bY|apply Kd.bH));exact (Kd.bF (aJ (aJ (aJ (Kd.bF lQ.out (fun ak hk=>(⟨hk,hk.2⟩:_∧ak≠a7)))))) (fun _ bI=>bI.1))) hb) <| p_ (aU (g:=bi) (o:=.cells #[.slice az aI.length b0] 28) (qK pY.out a9.out) hb) <| p_ (aU (g:=b7) (o:=.cells #[.slice none 0 0] 28) (qK qx.out aa.out) hb) <| p_ (aU (g:=aq) (o:=.cells #[.slice (some b8) a5.length aO] 28) (qK qy.out ab.out) hb) <| p_ (aU (g:=a7) (o:=.cells #[.string ((aB a5 a6).f0),.bool ((aB a5 a6).f1),.string ((aB a5 a6).f2)] 43) (DV a8.out) hb) <| a_ (dV ay hb);clear lQ pY qx qy a8 HB;obtain ⟨lQ,pY,qx,qy,a8,HB⟩:=ji;(try clear hb);(try clear hk)))
 (try simp only [fM])
 (try clear an bo aT ao bq aw fG bp bD ar av ax)
 (try clear e6)
 obtain ⟨H⟩:=dg;by_cases dt:df=true
 rotate_left
 ·replace dt:=Bool.eq_false_iff.mpr dt;subst dt;rw [if_neg iF] at H;have H':=m_ H;clear H;go_wp2
  (try simp only [← uZ])
  go_roundg k1
  case measure=>have:=gG.out;omega
  case rel=>exact ⟨(wrap64 (a6+1)),(a5),bC,H',⟨oz⟩,⟨(by (try simp only [uZ]);(with_reducible repeat (first|apply Kd.bW|apply Kd.bY|apply Kd.bH));exact Kd.bF lQ.out (fun _ hk=>trivial))⟩,⟨(by (try simp only [uZ]);(with_reducible repeat (first|refine fO ?_ _|refine dQ ?_|refine eP ?_ _));exact pY.out)⟩,⟨(by (try simp only [uZ]);(with_reducible repeat (first|refine fO ?_ _|refine dQ ?_|refine eP ?_ _));exact qx.out)⟩,⟨(by (try simp only [uZ]);(with_reducible repeat (first|refine fO ?_ _|refine dQ ?_|refine eP ?_ _));exact qy.out)⟩,⟨ay⟩⟩
 subst dt;rw [if_pos rfl] at H;obtain ⟨tN,ev,H⟩:=jF H;obtain ⟨ew,ex,H⟩:=jF H;obtain ⟨bx,cg⟩:∃ y_:ByteArray,(((aB a5 a6).f0).extract ((a1.size:Int):Int).toNat ((aB a5 a6).f0).size)=y_:=⟨_,rfl⟩;replace H:(if a2.size+bx.size≤9223372036854775807 then ((some (a2++bx:ByteArray)).bind fun b5=>(mJ.l0 k1 a1 a2 (aH.length:Int) (wrap64 (a6+1)) (a5.set (a6:Int).toNat (⟨b5,(aB a5 a6).f1,(aB a5 a6).f2⟩:aF)))) else (none))=some r:=by rw [← cg];exact (Option.bind_some _ _).symm.trans H
 (try simp only [Int.toNat_natCast] at cg)
 obtain ⟨du,H⟩:=lT H;have ey:=eq_true du;have ez:=nJ du;try have f3:(9223372036854775807 < a2.size+bx.size)=False:=eq_false (Nat.not_lt.2 du)
 clear du;obtain ⟨b5,ch⟩:∃ y_:ByteArray,(a2++bx)=y_:=⟨_,rfl⟩;replace H:(mJ.l0 k1 a1 a2 (aH.length:Int) (wrap64 (a6+1)) (a5.set (a6:Int).toNat (⟨b5,(aB a5 a6).f1,(aB a5 a6).f2⟩:aF)))=some r:=by rw [← ch];exact (Option.bind_some _ _).symm.trans H
 (try simp only [Int.toNat_natCast] at ch)
 obtain ⟨pF,bv⟩:∃ y_:List (aF),y_=(a5.set (a6:Int).toNat (⟨b5,(aB a5 a6).f1,(aB a5 a6).f2⟩:aF)):=⟨_,rfl⟩;rw [← bv] at H;have di:=m_ bv;clear bv;have H':=m_ H;clear H;try go_wp2
 obtain ⟨lQ,pY,qx,qy,a8,HB⟩:=p_ (Kd.bH lQ.out) <| yG pY qx qy a8 HB;have e9:0≤(a6:Int):=aX aY;have ea:(a6:Int) < ((a5.length:Int):Int):=aX aY;obtain ⟨b6,fg,dj,dk,eb,fh,dl⟩:=Kd.xQ lQ.out (by omega);(first|cases dj|(injection dj with jA sQ sO;(first|subst jA|(injection jA with jA;subst jA));subst sO;clear sQ))
 have ec:=m_ dk;have ed:=m_ dl;clear dk eb dl;(first|simp only [add_plain] at ac|skip)
 (first|simp only [add_plain] at ae|skip)
 (first|simp only [add_plain] at af|skip)
 obtain ⟨fi,dm,lJ,bb,bc⟩:=Kd.nX lQ.out z43 (a6:Int) e9 ea;obtain rfl:=og lJ;have fE:World.cell? _ ⟨b6,(a6:Int).toNat * 3,none⟩=some (.string ((aB a5 a6).f0)):=bb 0 _ rfl;have cv:World.cell? _ ⟨b6,(a6:Int).toNat * 3+1,none⟩=some (.bool ((aB a5 a6).f1)):=bb 1 _ rfl;have cw:World.cell? _ ⟨b6,(a6:Int).toNat * 3+2,none⟩=some (.string ((aB a5 a6).f2)):=bb 2 _ rfl;have cx:World.frozen? _ ⟨b6,(a6:Int).toNat * 3,none⟩=false:=bc 0;have cy:World.frozen? _ ⟨b6,(a6:Int).toNat * 3+1,none⟩=false:=bc 1;have cz:World.frozen? _ ⟨b6,(a6:Int).toNat * 3+2,none⟩=false:=bc 2;clear dm bb bc lJ;replace e9:=eq_true e9;replace ea:=eq_true ea;obtain ⟨fj,ci,dp,cj,dq⟩:=Kd.nX lQ.out z43 (a6:Int) (aX aY) (by have bI:(a6:Int) < ((a5.length:Int):Int):=aX aY;first|exact bI|(have e_:=(Kd.dn lQ.out).1;omega)|simpa using bI);obtain rfl:=og dp;have Q9:=(Kd.vW lQ.out (a6:Int) (aX aY) (by have bI:(a6:Int) < ((a5.length:Int):Int):=aX aY;first|exact bI|(have e_:=(Kd.dn lQ.out).1;omega)|simpa using bI) (seg:=[.string b5]) (j:=0) ci cj (show 1≤3 from by decide) (x':=(⟨b5,(aB a5 a6).f1,(aB a5 a6).f2⟩:aF)) (qU _ _ _ (⟨b5,(aB a5 a6).f1,(aB a5 a6).f2⟩:aF) ) (fun _ hk=>hk)).1;rw [← di.out] at Q9;have XG:=m_ Q9;clear ci cj dq dp Q9;refine iU (n:=13) (S:=fun w'=>jE w' aq (.slice (some ⟨b6,0,none⟩) a5.length aO) <| Di w' a7 (.string ((aB a5 a6).f0)) (.bool ((aB a5 a6).f1)) (.string ((aB a5 a6).f2))) (ds:=[12]) Dw aC rfl rfl ⟨(aQ qy.out 0).trans rfl,tK a8.out⟩ (fun hH=>?_);refine kF mJ.tab6 mJ.KO (fun aP fK=>?_);generalize ff.drew=fr at lQ pY qx qy a8 HB ed XG cx cy cz ac ae af fE cv cw hH ⊢;refine bM 0 ?_;refine bM 2 ?_;refine bM 3 ?_;refine bM 4 ?_;refine bM 6 ?_;refine bM 7 ?_;refine kE 1 hH ?_;refine kE 5 hH ?_;refine bM 8 ?_;refine bM 9 ?_;refine bM 10 ?_;refine bM 11 ?_;refine zI 12 (fun K hK=>?_);refine jD (w1:=?_) (by rfl) rfl ?_ ?_;rotate_left
 ·go_simp
  rfl
 refine hK.out _ _ ?_;clear hK K;refine jd (kC aP.out aC) ?_;try go_wp2
 (try simp only [← uZ])
 go_roundg k1
 case measure=>have:=gG.out;omega
 case rel=>exact ⟨(wrap64 (a6+1)),(pF),bC,H',⟨oz⟩,⟨(by (try simp only [uZ]);(with_reducible repeat (first|apply Kd.bW|apply Kd.bY|apply Kd.bH));exact Kd.bF XG.out (fun _ hk=>trivial))⟩,⟨adW⟩,⟨adV⟩,⟨adU⟩,⟨(by repeat (first|(with_reducible first|exact HB.out|apply sK|apply xB|apply nZ|refine jy ?_ ec.out|refine jy ?_ bj.out|refine jy ?_ bl.out|refine jy ?_ bm.out|refine jy ?_ bu.out)|exact HB.out))⟩⟩

mutual
def oP.j0:Nat→Int→Bool→Int→Int→Int→Int→List (aF)→Int→ByteArray→ByteArray→Int→Int→ByteArray→ByteArray→Bool→ByteArray→Option ((List (aF)) × Int × ByteArray × Int × Bool × List ByteArray)
 | 0,_,_,_,_,_,_,_,_,_,_,_,_,_,_,_,_=>none
 | k+1,x4,aO,a5,a6,a7,a8,a9,aa,ab,ac,ae,af,ag,aK,ai,aH=>if aO=true then (oP.j1 k 0 a5 a6 a7 a8 a9 aa ab ac ae af ag aK ai aH) else (oP.j1 k x4 a5 a6 a7 a8 a9 aa ab ac ae af ag aK ai aH)
def oP.j1:Nat→Int→Int→Int→Int→Int→List (aF)→Int→ByteArray→ByteArray→Int→Int→ByteArray→ByteArray→Bool→ByteArray→Option ((List (aF)) × Int × ByteArray × Int × Bool × List ByteArray)
 | 0,_,_,_,_,_,_,_,_,_,_,_,_,_,_,_=>none
 | k+1,x4,a8,a9,aa,ab,a7,ac,a5,a6,ae,af,ag,aK,ai,aH=>if a5.toList=([47]:List UInt8) then ((mJ.f k a7 a5 a6).bind fun aO=>(some (aO,9,(⟨#[]⟩:ByteArray),0,false,([]:List ByteArray)))) else ((Ce.f k a6 a5).bind fun al=>(if al=true then ((mJ.f k a7 a5 a6).bind fun am=>(some (am,11,(⟨#[]⟩:ByteArray),0,false,([]:List ByteArray)))) else ((mJ.f k a7 a5 a6).bind fun an=>(some (an,x4,(⟨#[]⟩:ByteArray),0,false,([]:List ByteArray))))))
end
def oP.f (k:Nat) (ae:Int) (af:Int) (ag:Int) (aK:Int) (aa:List (aF)) (ai:Int) (ab:ByteArray) (a5:ByteArray) (aH:Int) (aO:Int) (a6:ByteArray) (a7:ByteArray) (a8:Bool) (a9:ByteArray):Option ((List (aF)) × Int × ByteArray × Int × Bool × List ByteArray):=(Bh.f k aa a5).bind fun ac=>(if ac=7 then ((xX.f k ab).bind fun al=>((xX.f k a5).bind fun am=>(oP.j0 k ac (al.toList == am.toList) ae af ag aK aa ai ab a5 aH aO a6 a7 a8 a9))) else (oP.j0 k ac false ae af ag aK aa ai ab a5 aH aO a6 a7 a8 a9))
def oP.T2:Bool × List (List Nat × List Nat):=(true,[([],[]),([0],[0]),([1],[1]),([2],[2]),([3,2],[2,3]),([4,2],[2,4]),([5,2,2],[2,5]),([2],[2]),([7,2],[2,7]),([8,2],[2,8]),([9,6,2],[2,9]),([6,10,2],[2,6,10]),([2,11],[2,11])])
def oP.B2:List Nat:=[0,1,3,7,15,31,63,7,135,391,1023,2047,4095]
theorem oP.acT:kZ .any (opsOf Tryz.f117 2)=oP.T2:=by kernel_rfl
theorem oP.X8:vF oP.T2.2 oP.B2=true:=by kernel_rfl
theorem oP.calls (k:Nat) (ar:Int) (aT:Int) (av:Int) (aw:Int) (dX:Option Addr) (dW:Nat) (bP:List (aF)) (ax:Int) (aH:ByteArray) (a9:ByteArray) (bD:Int) (az:Int) (am:ByteArray) (an:ByteArray) (ao:Bool) (ap:ByteArray) (r1:List (aF)) (r2:Int) (r3:ByteArray) (r4:Int) (r5:Bool) (r6:List ByteArray) (w:World) (kN:jg w) (bb:Kd.C aS w dX bP.length bP) (bc:bP.length≤dW) (h:oP.f k ar aT av aw bP ax aH a9 bD az am an ao ap=some (r1,r2,r3,r4,r5,r6)) :
  Calls Tryz.prog 117 #[.agg #[ah ar,ah aT,ah av,ah aw,.slice dX bP.length dW,ah ax,.string aH,.string a9,ah bD,ah az,.string am,.string an,.bool ao,.string ap]] w fun e w'=>∃ fC nG:Value,e=.returned (.tuple #[.agg #[fC],.agg #[ah r2,.string r3,ah r4,.bool r5,nG]])∧Kd.R aS 43 w' w.heap.size (fun _=>True) fC r1∧Kd.R Kd.string 9 w' w.heap.size (fun _=>True) nG r6∧Below w.heap.size w w':=by
 have Fe:=underlying90;have nT:=underlying28;have wE:=underlying49;have Kz:=m_ bb;have b5:=m_ bc;clear bb bc;have HD:=m_ kN;clear kN;have HB:=m_ (Below.refl w.heap.size w);unfold oP.f at h
 have H:=h;clear h;obtain ⟨b9,A2,H⟩:=bd_ H;have bv:=m_ H;clear H;go_enter func117,ntmps117
 go_upto_region 2 with (first|((with_reducible refine dJ 1 ?_);refine dO 1 (cs:=#[ah ar,ah aT,ah av,ah aw,.slice dX bP.length dW,ah ax,.string aH,.string a9,ah bD,ah az,.string am,.string an,.bool ao,.string ap]) 90 ?_;intro a8 hg w4 hbox hb;obtain ⟨HB,a5,ch,ci⟩:=jR ay hb hbox hg;clear hb hbox hg)|((with_reducible refine dJ 2 ?_);refine dO 2 (cs:=#[.slice none 0 0]) 28 ?_;intro b0 hg w5 hbox hb;obtain ⟨a5,HB,a6,cj,ck,aa,ab⟩:=oO (au a5) ay hb hbox hg;clear hb hbox hg)|((with_reducible refine dJ 3 ?_);refine dO 3 (cs:=#[ah 0,.string (⟨#[]⟩:ByteArray),ah 0,.bool false,.slice none 0 0]) 49 ?_;intro b1 hg w6 hbox hb;obtain ⟨a5,a6,HB,a7,cl,cm,ac,ae,aO,al⟩:=rP (au a5) (au a6) ay hb hbox hg;clear hb hbox hg;obtain ⟨af,ag,aK,ai⟩:=iD aa ab ac ae;obtain ⟨Ur,Us,Uy,Uz,UA,UC,UD,UE,UF,UG,Ut,Uu,Uw,Ux⟩:=iG a5.out;obtain ⟨Vf,Vg,Vm,Vo,Vp,Vq,Vr,Vs,Vt,Vu,Vh,Vj,Vk,Vl⟩:=jI a5.out)|((with_reducible refine cu 24 ?_);refine cO (some 10) rfl rfl func24 aC rfl #[.agg #[.slice dX bP.length dW],.string a9] rfl bJ ?_;(with_reducible refine (Bh.calls k _ _ bP a9 b9 _ (jg.below HD.out ay) vK b5.out A2.out).mono ?_);rintro e cn ⟨rfl,hb⟩;refine ⟨_,rfl,?_⟩;obtain ⟨a5,a6,a7,HB⟩:=mP (au a5) (au a6) (au a7) ay hb;(try clear hb)))
 (try simp only [fM])
 go_cut [23] (fun v23 wc=>∃ (kq:Nat) (b6:Bool),v23=.bool b6∧aA (oP.j0 kq b9 b6 ar aT av aw bP ax aH a9 bD az am an ao ap=some (r1,r2,r3,r4,r5,r6))∧aA (kq≤k)∧aA (wc.heap[a8]?=some (.cells #[ah ar,ah aT,ah av,ah aw,(.slice dX bP.length dW),ah ax,.string aH,.string a9,ah bD,ah az,.string am,.string an,.bool ao,.string ap] 90))∧aA (wc.heap[b0]?=some (.cells #[(.slice none 0 0)] 28))∧aA (wc.heap[b1]?=some (.cells #[ah 0,.string (⟨#[]⟩:ByteArray),ah 0,.bool false,(.slice none 0 0)] 49))∧aA (Below w.heap.size w wc))
 case first =>
  obtain ⟨H⟩:=bv;revert H;refine eU (fun ba H=>?_) fun ba H=>?_;rotate_left
  ·have aq:=fZ ba;have b8:=f_ ba;try simp only [aV,aZ,aq]
   have H':=m_ H;clear H;try go_wp2
   obtain ⟨a5,a6,a7,HB⟩:=Bf a5 a6 a7 HB;refine iU (n:=13) (S:=fun w'=>True) (ds:=[]) Dw aC rfl rfl trivial (fun hH=>?_);refine kF oP.acT oP.X8 (fun aP fK=>?_);generalize cn.drew=cy at a5 a6 a7 HB hH ⊢;refine bM 0 ?_;refine bM 1 ?_;refine bM 2 ?_;refine lN 3 ?_;refine lN 4 ?_;refine lN 5 ?_;refine lN 6 ?_;refine lN 7 ?_;refine lN 8 ?_;refine lN 9 ?_;refine lN 10 ?_;refine lN 11 ?_;refine bM 12 ?_;refine jd (kC aP.out aC) ?_;try go_wp2
   go_meet
   case rel=>exact ⟨_,(false),bC,H',⟨lM⟩,⟨(au a5)⟩,⟨(au a6)⟩,⟨(au a7)⟩,⟨ay⟩⟩
  have aq:=fU ba;have b8:=fV ba;clear ba;try simp only [aV,aZ,aq]
  obtain ⟨bi,co,H⟩:=bd_ H;obtain ⟨bj,cp,H⟩:=bd_ H;have H':=m_ H;clear H;try go_wp2
  obtain ⟨a5,a6,a7,HB⟩:=Bf a5 a6 a7 HB;refine iU (n:=13) (S:=fun w'=>Dh w' a8 (ah ar) (ah aT) (ah av) (ah aw) (.slice dX bP.length dW) (ah ax) (.string aH) (.string a9) (ah bD) (ah az) (.string am) (.string an) (.bool ao) (.string ap)) (ds:=[]) Dw aC rfl rfl (iG a5.out) (fun hH=>?_);refine kF oP.acT oP.X8 (fun aP fK=>?_);generalize cn.drew=cz at a5 a6 a7 HB hH ⊢;refine bM 0 ?_;refine bM 1 ?_;refine bM 2 ?_;refine bM 3 ?_;refine bM 4 ?_;refine dF 7 18 #[aj,aj,aj,aj,aj,F_,F_,aj,F_,F_,F_,F_,F_] aP ?_;refine dF 8 19 #[aj,aj,aj,aj,aj,F_,F_,aj,aj,F_,F_,F_,F_] aP ?_;refine j_ 5 16 #[aj,aj,aj,aj,aj,aj,F_,aj,aj,F_,F_,F_,F_] aP fK hH ?_;refine j_ 9 20 #[aj,aj,aj,aj,aj,aj,F_,aj,aj,aj,F_,F_,F_] aP fK hH ?_;refine oH 6 (fun K hK=>?_);refine jw func59 aC rfl #[.string aH] (by rfl) rfl rfl bJ ?_
  with_reducible refine (xX.calls k aH bi _ (jg.below HD.out ay) co.out).mono ?_
  rintro e d0 ⟨rfl,hb⟩;refine ⟨_,rfl,?_⟩;obtain ⟨a5,a6,a7,HB⟩:=mP (au a5) (au a6) (au a7) ay hb;(try clear hb)
  refine hK.out _ _ (iG a5.out) (fun hH=>?_);clear hK K;refine gY (some 17) ?_;refine oH 10 (fun K hK=>?_);refine jw func59 aC rfl #[.string a9] (by rfl) rfl rfl bJ ?_
  with_reducible refine (xX.calls k a9 bj _ (jg.below HD.out ay) cp.out).mono ?_
  rintro e d1 ⟨rfl,hb⟩;refine ⟨_,rfl,?_⟩;obtain ⟨a5,a6,a7,HB⟩:=mP (au a5) (au a6) (au a7) ay hb;(try clear hb)
  refine hK.out _ _ (iG a5.out) (fun hH=>?_);clear hK K;refine gY (some 21) ?_;refine bM 11 ?_;refine bM 12 ?_;refine jd (kC aP.out aC) ?_;try go_wp2
  go_meet
  case rel=>exact ⟨_,((bi.toList == bj.toList)),bC,H',⟨lM⟩,⟨(au a5)⟩,⟨(au a6)⟩,⟨(au a7)⟩,⟨ay⟩⟩
 case rest =>
 clear bv;try clear Ur;try clear Us;try clear Ut;try clear Uu;try clear Uw;try clear Ux;try clear Uy;try clear Uz;try clear UA;try clear UC;try clear UD;try clear UE;try clear UF;try clear UG;try clear Vf;try clear Vg;try clear Vh;try clear Vj;try clear Vk;try clear Vl;try clear Vm;try clear Vo;try clear Vp;try clear Vq;try clear Vr;try clear Vs;try clear Vt;try clear Vu
 obtain ⟨kq,b6,rfl,HA,HJ2,a5,a6,a7,HB⟩:=hcut;cases kq with
 | zero=>exact absurd HA.out (by simp [oP.j0])
 | succ Md =>
 obtain ⟨H⟩:=HA;simp only [oP.j0] at H
 have dL:=m_ H;clear H;go_upto_if 23 with (fail)
 go_cut [4] (fun v4 wc=>∃ (kq:Nat) (b7:Int),v4=ah b7∧aA (oP.j1 kq b7 ar aT av aw bP ax aH a9 bD az am an ao ap=some (r1,r2,r3,r4,r5,r6))∧aA (kq≤Md)∧aA (wc.heap[a8]?=some (.cells #[ah ar,ah aT,ah av,ah aw,(.slice dX bP.length dW),ah ax,.string aH,.string a9,ah bD,ah az,.string am,.string an,.bool ao,.string ap] 90))∧aA (wc.heap[b0]?=some (.cells #[(.slice none 0 0)] 28))∧aA (wc.heap[b1]?=some (.cells #[ah 0,.string (⟨#[]⟩:ByteArray),ah 0,.bool false,(.slice none 0 0)] 49))∧aA (Below w.heap.size w wc))
 case first =>
  obtain ⟨H⟩:=dL;by_cases bl:b6=true
  ·subst bl;rw [if_pos rfl] at H;have H':=m_ H;clear H;go_wp2
   go_meet
   case rel=>exact ⟨_,(0),bC,H',⟨(by have:=HJ2.out;first|omega|exact Nat.le_refl _)⟩,⟨(au a5)⟩,⟨(au a6)⟩,⟨(au a7)⟩,⟨ay⟩⟩
  replace bl:=Bool.eq_false_iff.mpr bl;subst bl;rw [if_neg iF] at H;have H':=m_ H;clear H;go_wp2
  go_meet
  case rel=>exact ⟨_,(b9),bC,H',⟨(by have:=HJ2.out;first|omega|exact Nat.le_refl _)⟩,⟨(au a5)⟩,⟨(au a6)⟩,⟨(au a7)⟩,⟨ay⟩⟩
 case rest =>
 clear dL;obtain ⟨kq,b7,rfl,HA,ap3,a5,a6,a7,HB⟩:=hcut;cases kq with
 | zero=>exact absurd HA.out (by simp [oP.j1])
 | succ PI =>
 obtain ⟨H⟩:=HA;simp only [oP.j1] at H
 have bm:=m_ H;clear H;obtain ⟨aha,ahb,ahg,ahh,ahi,ahj,ahk,ahl,ahm,ahn,ahc,ahd,ahe,ahf⟩:=iG a5.out;obtain ⟨ajH,ajI,ajN,ajO,ajP,ajQ,ajR,ajS,ajT,ajU,ajJ,ajK,ajL,ajM⟩:=jI a5.out;go_upto_if 24 with (fail)
 (try clear af aK ag ai)
 (try clear aha ahb ahc ahd ahe ahf ahg ahh ahi ahj ahk ahl ahm ahn)
 (try clear ajH ajI ajJ ajK ajL ajM ajN ajO ajP ajQ ajR ajS ajT ajU)
 obtain ⟨H⟩:=bm;revert H;refine eU (fun bh H=>?_) fun bh H=>?_
 ·have b2:=fU bh;have fG:=fV bh;clear bh;try simp only [aV,aZ,b2]
  obtain ⟨bo,cq,H⟩:=bd_ H;simp only [gV] at H
  obtain ⟨rfl,rfl,rfl,rfl,rfl,rfl⟩:=H;obtain ⟨af,ag,aK,ai⟩:=iD aa ab ac ae;obtain ⟨ZJ,ZK,ZP,ZQ,ZR,ZT,ZU,ZV,ZW,ZX,ZL,ZM,ZN,ZO⟩:=iG a5.out;obtain ⟨aan,aao,aat,aau,aav,aaw,aax,aay,aaz,aaA,aap,aaq,aar,aas⟩:=jI a5.out;go_wp2_with (first|((with_reducible refine cu 9 ?_);refine cO (some 45) rfl rfl func9 aC rfl #[.agg #[.slice dX bP.length dW],.string aH,.string a9] rfl bJ ?_;(with_reducible refine (mJ.calls PI _ _ bP aH a9 bo _ (jg.below HD.out ay) vK b5.out cq.out).mono ?_);rintro e d2 ⟨aCV,rfl,ho0,hb⟩;refine ⟨_,rfl,?_⟩;obtain ⟨bd,a5,a6,a7,HB⟩:=p_ (Kd.dR ho0 (bU ay)) <| mP (au a5) (au a6) (au a7) ay hb;(try clear hb);(try clear ho0);obtain ⟨bw,bx,bz⟩:=Kd.dN bd.out;subst bz;obtain ⟨b3,b4⟩:=gy aO al;have aea:=bZ a6.out;have cr:=jc a7.out))
  refine bodyPost_ret (jq rfl _ _ b0 b1 28 49 #[.slice bw bo.length bx] #[ah 9,.string (⟨#[]⟩:ByteArray),ah 0,.bool false,.slice none 0 0] (0,0) (0,0) _ _ rfl bf underlying28 rfl aC rfl bf underlying49 rfl aC) rfl ?_;exact ⟨_,_,bK,(by (with_reducible repeat (first|apply Kd.bW|apply Kd.bY|apply Kd.bH));exact Kd.bF (aJ (aJ (aJ (aJ (aJ (aJ (Kd.bV (Kd.bV bd.out a6.out (by decide)) a7.out (by decide)) (fun _ hk=>hk.1.2))))))) (fun _ hk=>trivial)),lH,ay⟩
 have b2:=fZ bh;have fG:=f_ bh;try simp only [aV,aZ,b2]
 obtain ⟨bp,ct,H⟩:=bd_ H;have bq:=m_ H;clear H;obtain ⟨af,ag,aK,ai⟩:=iD aa ab ac ae;obtain ⟨Oz,OA,OG,OH,OI,OJ,OL,OM,OO,OQ,OB,OC,OD,OE⟩:=iG a5.out;obtain ⟨OT,OU,OZ,O1,O4,O5,O6,O7,O8,O9,OV,OW,OX,OY⟩:=jI a5.out;go_upto_if 29 with (first|((with_reducible refine cu 46 ?_);refine cO (some 36) rfl rfl func46 aC rfl #[.string a9,.string aH] rfl bJ ?_;(with_reducible refine (Ce.calls PI a9 aH bp _ (jg.below HD.out ay) ct.out).mono ?_);rintro e d3 ⟨rfl,hb⟩;refine ⟨_,rfl,?_⟩;obtain ⟨a5,a6,a7,HB⟩:=mP (au a5) (au a6) (au a7) ay hb;(try clear hb)))
 (try simp only [fM])
 (try clear af aK ag ai)
 (try clear Oz OA OB OC OD OE OG OH OI OJ OL OM OO OQ)
 (try clear OT OU OV OW OX OY OZ O1 O4 O5 O6 O7 O8 O9)
 obtain ⟨H⟩:=bq;by_cases bu:bp=true
 ·subst bu;rw [if_pos rfl] at H;obtain ⟨br,fE,H⟩:=bd_ H;simp only [gV] at H
  obtain ⟨rfl,rfl,rfl,rfl,rfl,rfl⟩:=H;obtain ⟨ar_,ar',asf,asg,ash,asi,asj,asl,asn,aso,asa,asb,asc,ase⟩:=iG a5.out;obtain ⟨ax6,ax7,aya,ayb,ayc,ayd,aye,ayf,ayg,ayh,ax8,ax9,ax_,ax'⟩:=jI a5.out;go_wp2_with (first|((with_reducible refine cu 9 ?_);refine cO (some 45) rfl rfl func9 aC rfl #[.agg #[.slice dX bP.length dW],.string aH,.string a9] rfl bJ ?_;(with_reducible refine (mJ.calls PI _ _ bP aH a9 br _ (jg.below HD.out ay) vK b5.out fE.out).mono ?_);rintro e d4 ⟨aCW,rfl,ho0,hb⟩;refine ⟨_,rfl,?_⟩;obtain ⟨be,a5,a6,a7,HB⟩:=p_ (Kd.dR ho0 (bU ay)) <| mP (au a5) (au a6) (au a7) ay hb;(try clear hb);(try clear ho0);obtain ⟨ca,cc,cd⟩:=Kd.dN be.out;subst cd;obtain ⟨b3,b4⟩:=gy aO al;have apH:=bZ a6.out;have cv:=jc a7.out))
  refine bodyPost_ret (jq rfl _ _ b0 b1 28 49 #[.slice ca br.length cc] #[ah 11,.string (⟨#[]⟩:ByteArray),ah 0,.bool false,.slice none 0 0] (0,0) (0,0) _ _ rfl bf underlying28 rfl aC rfl bf underlying49 rfl aC) rfl ?_;exact ⟨_,_,bK,(by (with_reducible repeat (first|apply Kd.bW|apply Kd.bY|apply Kd.bH));exact Kd.bF (aJ (aJ (aJ (aJ (aJ (aJ (Kd.bV (Kd.bV be.out a6.out (by decide)) a7.out (by decide)) (fun _ hk=>hk.1.2))))))) (fun _ hk=>trivial)),lH,ay⟩
 replace bu:=Bool.eq_false_iff.mpr bu;subst bu;rw [if_neg iF] at H;obtain ⟨bs,cw,H⟩:=bd_ H;simp only [gV] at H
 obtain ⟨rfl,rfl,rfl,rfl,rfl,rfl⟩:=H;obtain ⟨aij,aik,aiq,air,ais,ait,aiu,aiv,aiw,aix,ail,ain,aio,aip⟩:=iG a5.out;obtain ⟨akQ,akR,akW,akX,akY,akZ,ak0,ak1,ak2,ak3,akS,akT,akU,akV⟩:=jI a5.out;go_wp2_with (first|((with_reducible refine cu 9 ?_);refine cO (some 45) rfl rfl func9 aC rfl #[.agg #[.slice dX bP.length dW],.string aH,.string a9] rfl bJ ?_;(with_reducible refine (mJ.calls PI _ _ bP aH a9 bs _ (jg.below HD.out ay) vK b5.out cw.out).mono ?_);rintro e d5 ⟨aCX,rfl,ho0,hb⟩;refine ⟨_,rfl,?_⟩;obtain ⟨fA,a5,a6,a7,HB⟩:=p_ (Kd.dR ho0 (bU ay)) <| mP (au a5) (au a6) (au a7) ay hb;(try clear hb);(try clear ho0);obtain ⟨ce,cf,cg⟩:=Kd.dN fA.out;subst cg;obtain ⟨b3,b4⟩:=gy aO al;have apJ:=bZ a6.out;have cx:=jc a7.out))
 refine bodyPost_ret (jq rfl _ _ b0 b1 28 49 #[.slice ce bs.length cf] #[ah b7,.string (⟨#[]⟩:ByteArray),ah 0,.bool false,.slice none 0 0] (0,0) (0,0) _ _ rfl bf underlying28 rfl aC rfl bf underlying49 rfl aC) rfl ?_;exact ⟨_,_,bK,(by (with_reducible repeat (first|apply Kd.bW|apply Kd.bY|apply Kd.bH));exact Kd.bF (aJ (aJ (aJ (aJ (aJ (aJ (Kd.bV (Kd.bV fA.out a6.out (by decide)) a7.out (by decide)) (fun _ hk=>hk.1.2))))))) (fun _ hk=>trivial)),lH,ay⟩

def zC.f (ac:Int) (ae:Int) (af:Int) (ag:Int) (a7:List (aF)) (aK:Int) (ai:ByteArray) (aH:ByteArray) (a6:Int) (a8:Int) (aa:ByteArray) (ab:ByteArray) (a9:Bool) (a5:ByteArray):Option ((List (aF)) × Int × ByteArray × Int × Bool × List ByteArray):=if a9=true then (some (a7,5,(⟨#[]⟩:ByteArray),0,false,([]:List ByteArray))) else (if a6 < 0 then (some (a7,12,(⟨#[]⟩:ByteArray),0,false,([]:List ByteArray))) else (if a8 < 0 then (some (a7,12,(⟨#[]⟩:ByteArray),0,false,([]:List ByteArray))) else (if 0≤(mn a6 (a5.size:Int)) then (if (mn a6 (a5.size:Int))≤(a5.size:Int) then (if 0≤(mn a8 ((a5.extract ((mn a6 (a5.size:Int)):Int).toNat a5.size).size:Int)) then (if (mn a8 ((a5.extract ((mn a6 (a5.size:Int)):Int).toNat a5.size).size:Int))≤((a5.extract ((mn a6 (a5.size:Int)):Int).toNat a5.size).size:Int) then (some (a7,0,(a5.extract ((mn a6 (a5.size:Int)):Int).toNat a5.size).extract 0 ((mn a8 ((a5.extract ((mn a6 (a5.size:Int)):Int).toNat a5.size).size:Int)):Int).toNat,0,false,([]:List ByteArray))) else (none)) else (none)) else (none)) else (none))))
def zC.T6:Bool × List (List Nat × List Nat):=(true,[([],[]),([0],[0]),([],[]),([],[]),([3],[3]),([4],[4]),([],[]),([6],[6]),([5,7],[5,7]),([2,8],[2,8]),([9],[9]),([1,0,1],[1]),([10,11,0,1,2,3,4,5,6,7,8,9,10,11],[10])])
def zC.B6:List Nat:=[0,1,0,0,8,24,0,64,248,508,1020,3,4095]
theorem zC.calls (aw:Int) (ax:Int) (bD:Int) (az:Int) (mW:Nat→Prop) (dX:Option Addr) (dW:Nat) (bP:List (aF)) (b0:Int) (b1:ByteArray) (b2:ByteArray) (ao:Int) (al:Int) (ar:ByteArray) (aT:ByteArray) (av:Bool) (a7:ByteArray) (r1:List (aF)) (r2:Int) (r3:ByteArray) (r4:Int) (r5:Bool) (r6:List ByteArray) (w:World) (Fa:Kd.V aS 43 w w.heap.size (fun ak=>mW ak) (.slice dX bP.length dW) bP) (h:zC.f aw ax bD az bP b0 b1 b2 ao al ar aT av a7=some (r1,r2,r3,r4,r5,r6)) :
  Calls Tryz.prog 118 #[.agg #[ah aw,ah ax,ah bD,ah az,.slice dX bP.length dW,ah b0,.string b1,.string b2,ah ao,ah al,.string ar,.string aT,.bool av,.string a7]] w fun e w'=>∃ fC nG:Value,e=.returned (.tuple #[.agg #[fC],.agg #[ah r2,.string r3,ah r4,.bool r5,nG]])∧Kd.V aS 43 w' w.heap.size (fun ak=>(mW ak∨w.heap.size≤ak)∧some ak≠(nG:Value).ownBlock) fC r1∧Kd.R Kd.string 9 w' w.heap.size (fun ak=>(w.heap.size≤ak)) nG r6∧Below w.heap.size w w':=by
 have Fe:=underlying90;have nT:=underlying28;have wE:=underlying49;have ku:=m_ (show Kd.V aS 43 w w.heap.size (fun ak=>(mW ak∨w.heap.size≤ak)) (.slice dX bP.length dW) bP from Kd.iZ Fa (fun ak hk=>.inl hk));have HB:=m_ (Below.refl w.heap.size w);unfold zC.f at h
 have H:=h;clear h;have bb:=m_ H;clear H;go_enter func118,ntmps118
 go_upto_if 5 with (first|((with_reducible refine dJ 1 ?_);refine dO 1 (cs:=#[ah aw,ah ax,ah bD,ah az,.slice dX bP.length dW,ah b0,.string b1,.string b2,ah ao,ah al,.string ar,.string aT,.bool av,.string a7]) 90 ?_;intro ac hg w3 hbox hb;obtain ⟨ku,HB,a8,bc,bd⟩:=p_ (Kd.uq (Kd.wO xG ac (Nat.le_of_eq hg.symm)) hb) <| jR ay hb hbox hg;clear hb hbox hg)|((with_reducible refine dJ 2 ?_);refine dO 2 (cs:=#[.slice none 0 0]) 28 ?_;intro zx hg w4 hbox hb;obtain ⟨ku,a8,HB,ae,be,fA,a6,aa⟩:=p_ (Kd.uq (Kd.wO xG zx (Nat.le_of_eq hg.symm)) hb) <| oO (au a8) ay hb hbox hg;clear hb hbox hg)|((with_reducible refine dJ 3 ?_);refine dO 3 (cs:=#[ah 0,.string (⟨#[]⟩:ByteArray),ah 0,.bool false,.slice none 0 0]) 49 ?_;intro qL hg w5 hbox hb;obtain ⟨ku,a8,ae,HB,a9,dL,bh,a5,ab,aH,aO⟩:=p_ (Kd.uq (Kd.wO xG qL (Nat.le_of_eq hg.symm)) hb) <| rP (au a8) (au ae) ay hb hbox hg;clear hb hbox hg;obtain ⟨af,ag,aK,ai⟩:=iD a6 aa a5 ab;obtain ⟨Ub,Uc,Uh,Ui,Uj,Uk,Ul,Um,Un,Uo,Ud,Ue,Uf,Ug⟩:=iG a8.out;obtain ⟨U1,U2,U7,U8,U9,U_,Va,Vb,Vd,Ve,U3,U4,U5,U6⟩:=jI a8.out))
 (try simp only [fM])
 (try clear af aK ag ai)
 (try clear Ub Uc Ud Ue Uf Ug Uh Ui Uj Uk Ul Um Un Uo)
 (try clear U1 U2 U3 U4 U5 U6 U7 U8 U9 U_ Va Vb Vd Ve)
 obtain ⟨H⟩:=bb;by_cases c9:av=true
 ·subst c9;rw [if_pos rfl] at H;simp only [gV] at H
  obtain ⟨rfl,rfl,rfl,rfl,rfl,rfl⟩:=H;obtain ⟨af,ag,aK,ai⟩:=iD a6 aa a5 ab;obtain ⟨Hy,Hz,H9,H_,Ia,Ib,Ic,Ie,Ig,Ih,HY,H6,H7,H8⟩:=iG a8.out;obtain ⟨IG,II,IU,IV,IW,IX,IY,IZ,I4,I5,IJ,IK,IL,IQ⟩:=jI a8.out;obtain ⟨am,an⟩:=gy aH aO;have QG:=bZ ae.out;have br:=jc a9.out;go_wp2
  refine bodyPost_ret (jq rfl _ _ zx qL 28 49 #[.slice dX bP.length dW] #[ah 5,.string (⟨#[]⟩:ByteArray),ah 0,.bool false,.slice none 0 0] (0,0) (0,0) _ _ rfl bf underlying28 rfl aC rfl bf underlying49 rfl aC) rfl ?_;exact ⟨_,_,bK,(by (with_reducible repeat (first|apply Kd.rJ|apply Kd.rM|apply Kd.oN));exact Kd.iZ (Kd.fJ (p:=⟨qL,4,none⟩) (Kd.fJ (p:=⟨qL,3,none⟩) (Kd.fJ (p:=⟨qL,2,none⟩) (Kd.fJ (p:=⟨qL,1,none⟩) (Kd.fJ (p:=⟨qL,0,none⟩) (Kd.fJ (p:=⟨zx,0,none⟩) (Kd.iZ (Kd.iZ ku.out (fun ak hk=>(⟨hk,hk.1.2⟩:_∧ak≠zx))) (fun ak hk=>(⟨hk,hk.1.2⟩:_∧ak≠qL))) (fun _ hk=>hk.1.2) (.slice dX bP.length dW)) (fun _ hk=>hk.2) (ah 5)) (fun _ hk=>hk.2) (.string (⟨#[]⟩:ByteArray))) (fun _ hk=>hk.2) (ah 0)) (fun _ hk=>hk.2) (.bool false)) (fun _ hk=>hk.2) (.slice none 0 0)) (fun _ hk=>⟨hk.1.1.1.1.1,zQ⟩)),lH,ay⟩
 replace c9:=Bool.eq_false_iff.mpr c9;subst c9;rw [if_neg iF] at H;revert H;refine fB (fun ap H=>?_) fun ap H=>?_
 ·try simp only [aV,aZ,ap]
  simp only [gV] at H
  obtain ⟨rfl,rfl,rfl,rfl,rfl,rfl⟩:=H;obtain ⟨af,ag,aK,ai⟩:=iD a6 aa a5 ab;obtain ⟨arq,ars,arz,arA,arB,arC,arD,arE,arF,arG,aru,arv,arw,arx⟩:=iG a8.out;obtain ⟨axp,axq,axw,axx,axy,axz,axA,axB,axC,axD,axr,axt,axu,axv⟩:=jI a8.out;obtain ⟨am,an⟩:=gy aH aO;have QJ:=bZ ae.out;have bs:=jc a9.out;go_wp2
  refine bodyPost_ret (jq rfl _ _ zx qL 28 49 #[.slice dX bP.length dW] #[ah 12,.string (⟨#[]⟩:ByteArray),ah 0,.bool false,.slice none 0 0] (0,0) (0,0) _ _ rfl bf underlying28 rfl aC rfl bf underlying49 rfl aC) rfl ?_;exact ⟨_,_,bK,adS,lH,ay⟩
 try simp only [aV,aZ,ap]
 have b6:=m_ H;clear H;obtain ⟨af,ag,aK,ai⟩:=iD a6 aa a5 ab;obtain ⟨Ii,Ij,Iq,Ir,Iu,Iw,Iy,Iz,IB,IC,Ik,Il,Io,Ip⟩:=iG a8.out;obtain ⟨I7,I8,Jc,Jd,Je,Jf,Jg,Jh,Ji,Jj,I9,I_,Ja,Jb⟩:=jI a8.out;go_upto_if 12 with (fail)
 (try clear af aK ag ai)
 (try clear Ii Ij Ik Il Io Ip Iq Ir Iu Iw Iy Iz IB IC)
 (try clear I7 I8 I9 I_ Ja Jb Jc Jd Je Jf Jg Jh Ji Jj)
 obtain ⟨H⟩:=b6;revert H;refine fB (fun aq H=>?_) fun aq H=>?_
 ·try simp only [aV,aZ,aq]
  simp only [gV] at H
  obtain ⟨rfl,rfl,rfl,rfl,rfl,rfl⟩:=H;obtain ⟨aho,ahp,ahu,ahv,ahw,ahx,ahy,ahz,ahA,ahB,ahq,ahr,ahs,aht⟩:=iG a8.out;obtain ⟨ajV,ajW,aj1,aj2,aj3,aj6,aj7,aj8,aj9,aj_,ajX,ajY,ajZ,aj0⟩:=jI a8.out;obtain ⟨am,an⟩:=gy aH aO;have aea:=bZ ae.out;have bu:=jc a9.out;go_wp2
  refine bodyPost_ret (jq rfl _ _ zx qL 28 49 #[.slice dX bP.length dW] #[ah 12,.string (⟨#[]⟩:ByteArray),ah 0,.bool false,.slice none 0 0] (0,0) (0,0) _ _ rfl bf underlying28 rfl aC rfl bf underlying49 rfl aC) rfl ?_;exact ⟨_,_,bK,adS,lH,ay⟩
 try simp only [aV,aZ,aq]
 obtain ⟨wY,Pg⟩:∃ mZ:Int,(mn ao (a7.size:Int))=mZ:=⟨_,rfl⟩;replace H:(if 0≤(wY) then (if (wY)≤(a7.size:Int) then (if 0≤(mn al ((a7.extract ((wY):Int).toNat a7.size).size:Int)) then (if (mn al ((a7.extract ((wY):Int).toNat a7.size).size:Int))≤((a7.extract ((wY):Int).toNat a7.size).size:Int) then (some (bP,0,(a7.extract ((wY):Int).toNat a7.size).extract 0 ((mn al ((a7.extract ((wY):Int).toNat a7.size).size:Int)):Int).toNat,0,false,([]:List ByteArray))) else (none)) else (none)) else (none)) else (none))=some (r1,r2,r3,r4,r5,r6):=by first|(rw [Pg] at H;exact H)|(simp only [Pg] at H ⊢;exact H)
 have aAz:(if (a7.size:Int) < ao then (a7.size:Int) else ao)=wY:=Pg;obtain ⟨bi,bj,H⟩:=jF H;obtain ⟨bl,bm,H⟩:=jF H;obtain ⟨Jz,Ph⟩:∃ mZ:Int,(mn al ((a7.extract ((wY):Int).toNat a7.size).size:Int))=mZ:=⟨_,rfl⟩;replace H:(if 0≤(Jz) then (if (Jz)≤((a7.extract ((wY):Int).toNat a7.size).size:Int) then (some (bP,0,(a7.extract ((wY):Int).toNat a7.size).extract 0 ((Jz):Int).toNat,0,false,([]:List ByteArray))) else (none)) else (none))=some (r1,r2,r3,r4,r5,r6):=by first|(rw [Ph] at H;exact H)|(simp only [Ph] at H ⊢;exact H)
 have aly:(if ((a7.extract ((wY):Int).toNat a7.size).size:Int) < al then ((a7.extract ((wY):Int).toNat a7.size).size:Int) else al)=Jz:=Ph;obtain ⟨fG,bo,H⟩:=jF H;obtain ⟨bp,bq,H⟩:=jF H;simp only [ByteArray.size_extract,Nat.min_self] at aly bp bq
 simp only [gV] at H
 obtain ⟨rfl,rfl,rfl,rfl,rfl,rfl⟩:=H;obtain ⟨ahQ,ahR,ahW,ahX,ahY,ahZ,ah0,ah1,ah2,ah3,ahS,ahT,ahU,ahV⟩:=iG a8.out;obtain ⟨ako,akp,aku,akv,akw,akx,aky,akz,akA,akB,akq,akr,aks,akt⟩:=jI a8.out;try go_wp2
 obtain ⟨ku,a8,ae,a9,HB⟩:=p_ (Kd.oN ku.out) <| Bf a8 ae a9 HB;refine iU (n:=13) (S:=fun w'=>Dh w' ac (ah aw) (ah ax) (ah bD) (ah az) (.slice dX bP.length dW) (ah b0) (.string b1) (.string b2) (ah ao) (ah al) (.string ar) (.string aT) (.bool false) (.string a7)) (ds:=[]) Dw aC rfl rfl (iG a8.out) (fun hH=>?_);refine kF (T:=zC.T6) (B:=zC.B6) aC aC (fun aP fK=>?_);generalize w5.drew=b5 at ku a8 ae a9 HB hH ⊢;refine bM 0 ?_;refine bM 2 ?_;refine bM 3 ?_;refine bM 4 ?_;refine bM 6 ?_;refine bM 7 ?_;refine kE 1 hH ?_;refine kE 5 hH ?_;refine bM 8 ?_;refine bM 9 ?_;refine bM 10 ?_;refine oH 11 (fun K hK=>?_);have aaR:b5.cell? ⟨zx,0,none⟩=some (.slice none 0 0):=(aQ ae.out 0).trans rfl;have Z8:=cZ ae.out 0;obtain ⟨an,am⟩:=gy aO aH;refine jD (w1:=?_) (by rfl) rfl ?_ ?_;rotate_left
 ·go_simp
  rfl
 refine hK.out _ _ ⟨(aG a6 hH.1),(aG a6 hH.2.1),(aG a6 hH.2.2.1),(aG a6 hH.2.2.2.1),(aG a6 hH.2.2.2.2.1),(aG a6 hH.2.2.2.2.2.1),(aG a6 hH.2.2.2.2.2.2.1),(aG a6 hH.2.2.2.2.2.2.2.1),(aG a6 hH.2.2.2.2.2.2.2.2.1),(aG a6 hH.2.2.2.2.2.2.2.2.2.1),(aG a6 hH.2.2.2.2.2.2.2.2.2.2.1),(aG a6 hH.2.2.2.2.2.2.2.2.2.2.2.1),(aG a6 hH.2.2.2.2.2.2.2.2.2.2.2.2.1),(aG a6 hH.2.2.2.2.2.2.2.2.2.2.2.2.2)⟩ (fun hH=>?_);clear hK K;refine oH 12 (fun K hK=>?_);have aBS:b5.cell? ⟨qL,0,none⟩=some (ah 0):=(aQ a9.out 0).trans rfl;have avX:=cZ a9.out 0;have alH:b5.cell? ⟨qL,1,none⟩=some (.string (⟨#[]⟩:ByteArray)):=(aQ a9.out 1).trans rfl;have ai':=cZ a9.out 1;have aBT:b5.cell? ⟨qL,2,none⟩=some (ah 0):=(aQ a9.out 2).trans rfl;have avY:=cZ a9.out 2;have aBU:b5.cell? ⟨qL,3,none⟩=some (.bool false):=(aQ a9.out 3).trans rfl;have avZ:=cZ a9.out 3;have aBV:b5.cell? ⟨qL,4,none⟩=some (.slice none 0 0):=(aQ a9.out 4).trans rfl;have av1:=cZ a9.out 4;refine jD (w1:=?_) (by rfl) rfl ?_ ?_;rotate_left
 ·go_simp
  rfl
 refine hK.out _ _ ⟨(aG a5 (aG a5 (aG a5 (aG a5 (aG a5 hH.1))))),(aG a5 (aG a5 (aG a5 (aG a5 (aG a5 hH.2.1))))),(aG a5 (aG a5 (aG a5 (aG a5 (aG a5 hH.2.2.1))))),(aG a5 (aG a5 (aG a5 (aG a5 (aG a5 hH.2.2.2.1))))),(aG a5 (aG a5 (aG a5 (aG a5 (aG a5 hH.2.2.2.2.1))))),(aG a5 (aG a5 (aG a5 (aG a5 (aG a5 hH.2.2.2.2.2.1))))),(aG a5 (aG a5 (aG a5 (aG a5 (aG a5 hH.2.2.2.2.2.2.1))))),(aG a5 (aG a5 (aG a5 (aG a5 (aG a5 hH.2.2.2.2.2.2.2.1))))),(aG a5 (aG a5 (aG a5 (aG a5 (aG a5 hH.2.2.2.2.2.2.2.2.1))))),(aG a5 (aG a5 (aG a5 (aG a5 (aG a5 hH.2.2.2.2.2.2.2.2.2.1))))),(aG a5 (aG a5 (aG a5 (aG a5 (aG a5 hH.2.2.2.2.2.2.2.2.2.2.1))))),(aG a5 (aG a5 (aG a5 (aG a5 (aG a5 hH.2.2.2.2.2.2.2.2.2.2.2.1))))),(aG a5 (aG a5 (aG a5 (aG a5 (aG a5 hH.2.2.2.2.2.2.2.2.2.2.2.2.1))))),(aG a5 (aG a5 (aG a5 (aG a5 (aG a5 hH.2.2.2.2.2.2.2.2.2.2.2.2.2)))))⟩ (fun hH=>?_);clear hK K;refine jd (kC aP.out aC) ?_;try go_wp2
 refine bodyPost_ret (jq rfl _ _ zx qL 28 49 #[.slice dX bP.length dW] #[ah 0,.string ((a7.extract ((wY):Int).toNat a7.size).extract 0 ((Jz):Int).toNat),ah 0,.bool false,.slice none 0 0] (0,0) (0,0) _ _ rfl bf underlying28 rfl aC rfl bf underlying49 rfl aC) rfl ?_;exact ⟨_,_,(by first|rfl|(simp [sS,sU] <;> rfl)|(simp only [← Pg,← Ph];first|rfl|(simp [sS,sU] <;> rfl))|(simp [*,sS,sU] <;> rfl)),(by (with_reducible repeat (first|apply Kd.rJ|apply Kd.rM|apply Kd.oN));exact Kd.iZ (Kd.fJ (p:=⟨qL,4,none⟩) (Kd.fJ (p:=⟨qL,3,none⟩) (Kd.fJ (p:=⟨qL,2,none⟩) (Kd.fJ (p:=⟨qL,1,none⟩) (Kd.fJ (p:=⟨qL,0,none⟩) (Kd.fJ (p:=⟨zx,0,none⟩) (Kd.iZ (Kd.iZ ku.out (fun ak hk=>(⟨hk,hk.1.2⟩:_∧ak≠zx))) (fun ak hk=>(⟨hk,hk.1.2⟩:_∧ak≠qL))) (fun _ hk=>hk.1.2) (.slice dX bP.length dW)) (fun _ hk=>hk.2) (ah 0)) (fun _ hk=>hk.2) (.string ((a7.extract ((wY):Int).toNat a7.size).extract 0 ((Jz):Int).toNat))) (fun _ hk=>hk.2) (ah 0)) (fun _ hk=>hk.2) (.bool false)) (fun _ hk=>hk.2) (.slice none 0 0)) (fun _ hk=>⟨hk.1.1.1.1.1,zQ⟩)),lH,ay⟩

def zA.f (a0:Int):Option (Int):=if a0 < 0 then (some 0) else (if (Int.tmod a0 32) > 0 then (some (wrap64 ((wrap64 (Int.tdiv a0 32))+1))) else (some (wrap64 (Int.tdiv a0 32))))
theorem zA.calls (a0:Int) (r:Int) (w:World) (h:zA.f a0=some r) :
  Calls Tryz.prog 101 #[ah a0] w fun e w'=>e=.returned (ah r)∧pO w w':=by
 unfold zA.f at h
 have H:=h;clear h;revert H;refine fB (fun a5 H=>?_) fun a5 H=>?_
 ·obtain rfl:=bQ H;go_enter func101,ntmps101
  go_wp2
  go_ret
  exact ⟨bC,kL⟩
 revert H;refine fB (fun a6 H=>?_) fun a6 H=>?_
 ·obtain rfl:=bQ H;go_enter func101,ntmps101
  go_wp2
  go_ret
  exact ⟨bC,kL⟩
 obtain rfl:=bQ H;go_enter func101,ntmps101
 go_wp2
 go_ret
 exact ⟨bC,kL⟩

def vI.l0:Nat→Int→List (aF)→Int→Int→Option (Int)
 | 0,_,_,_,_=>none
 | k+1,x3,x7,gZ,oM=>if oM < gZ then (if 0≤oM then (if oM < (x7.length:Int) then (if ((aB x7 oM).f1=true) then (vI.l0 k x3 x7 gZ (wrap64 (oM+1))) else ((zA.f (((aB x7 oM).f2).size:Int)).bind fun a5=>(vI.l0 k (wrap64 (x3+a5)) x7 gZ (wrap64 (oM+1))))) else (none)) else (none)) else (some x3)
def vI.f (k:Nat) (a5:List (aF)):Option (Int):=vI.l0 k 0 a5 (a5.length:Int) 0
theorem vI.calls (k:Nat) (ag:Option Addr) (aK:Nat) (aI:List (aF)) (r:Int) (w:World) (aH:Kd.C aS w ag aI.length aI) (aO:aI.length≤aK) (h:vI.f k aI=some r) :
  Calls Tryz.prog 56 #[.agg #[.slice ag aI.length aK]] w fun e w'=>e=.returned (ah r)∧Below w.heap.size w w':=by
 have nT:=underlying28;have tX:=underlying43;have lg:=m_ aH;have av:=m_ aO;clear aH aO;have HB:=m_ (Below.refl w.heap.size w);unfold vI.f at h
 have H:=h;clear h;have H':=m_ H;clear H;go_enter func56,ntmps56
 go_wp2_with (first|((with_reducible refine dJ 1 ?_);refine dO 1 (cs:=#[.slice ag aI.length aK]) 28 ?_;intro ao hg w2 hbox hb;obtain ⟨HB,a6,aw,ax⟩:=jR ay hb hbox hg;clear hb hbox hg;have apF:=bZ a6.out))
 go_loopg [3,9] k (fun kq v3 v9 w'=>∃ (af:Int) (a5:Int),v3=ah af∧v9=ah a5∧aA (vI.l0 kq af aI (aI.length:Int) a5=some r)∧aA (kq≤k)∧aA (w'.heap[ao]?=some (.cells #[(.slice ag aI.length aK)] 28))∧aA (Below w.heap.size w w'))
 case atStart=>exact ⟨(0),(0),bC,bC,H',⟨Nat.le_refl _⟩,⟨(au a6)⟩,⟨ay⟩⟩
 case round =>
 clear H';try clear apF
 obtain ⟨af,a5,rfl,rfl,HA,gG,a6,HB⟩:=hrel;cases gk with
 | zero=>exact absurd HA.out (by simp [vI.l0])
 | succ k1 =>
 obtain ⟨H⟩:=HA;simp only [vI.l0] at H
 revert H;refine fB (fun aq H=>?_) fun aq H=>?_;rotate_left
 ·obtain rfl:=bQ H;go_wp2
  go_ret
  exact ⟨bK,ay⟩
 obtain ⟨b3,H⟩:=gI H;obtain ⟨b4,H⟩:=gI H;have bD:=m_ H;clear H;have am:0≤(a5:Int):=aX aY;have an:a5 < (aI.length:Int):=aX aY;obtain ⟨az,ar,a9,aa,ab⟩:=jV lg.out a5 am an;cases ar;replace a9:=fF HB.out a9;replace aa:=fF HB.out aa;replace ab:=fF HB.out ab;replace am:=eq_true am;replace an:=eq_true an;go_upto_if 15 with (first|((with_reducible refine dJ 5 ?_);refine dO 5 (cs:=#[.string (⟨#[]⟩:ByteArray),.bool false,.string (⟨#[]⟩:ByteArray)]) 43 ?_;intro b0 hg w8 hbox hb;obtain ⟨a6,HB,al,b1,b2,a7,a8⟩:=oO (au a6) ay hb hbox hg;clear hb hbox hg;obtain ⟨ac,ae⟩:=gy a8 a7;have aT:=qj al.out))
 (try simp only [fM])
 (try clear ae ac)
 (try clear aT)
 (try clear a9 aa ab)
 obtain ⟨H⟩:=bD;obtain ⟨Ye,TD⟩:∃ KN:Bool,KN=((aB aI a5).f1):=⟨_,rfl⟩;replace H:(if (Ye=true) then (vI.l0 k1 af aI (aI.length:Int) (wrap64 (a5+1))) else ((zA.f (((aB aI a5).f2).size:Int)).bind fun ai=>(vI.l0 k1 (wrap64 (af+ai)) aI (aI.length:Int) (wrap64 (a5+1)))))=some r:=by rw [← TD] at H;exact H
 have ae4:=m_ TD;clear TD;(try rw [← ae4.out])
 by_cases ap:(Ye=true)
 ·subst ap;rw [if_pos rfl] at H;have H':=m_ H;clear H;go_wp2
  go_roundg k1
  case measure=>have:=gG.out;omega
  case rel=>exact ⟨(af),(wrap64 (a5+1)),bC,bC,H',⟨oz⟩,⟨bf⟩,⟨ay⟩⟩
 replace ap:=Bool.eq_false_iff.mpr ap;subst ap;rw [if_neg iF] at H;obtain ⟨ai,b5,H⟩:=bd_ H;have H':=m_ H;clear H;obtain ⟨ac,ae⟩:=gy a8 a7;have b6:=qj al.out;go_wp2_with (first|((with_reducible refine cu 101 ?_);refine cO (some 20) rfl rfl func101 aC rfl #[ah (((aB aI a5).f2).size:Int)] rfl bJ ?_;(with_reducible refine (zA.calls (((aB aI a5).f2).size:Int) ai _ b5.out).mono ?_);rintro e w' ⟨rfl,⟨nd,rfl⟩⟩;refine ⟨_,rfl,?_⟩))
 go_roundg k1
 case measure=>have:=gG.out;omega
 case rel=>exact ⟨(wrap64 (af+ai)),(wrap64 (a5+1)),bC,bC,H',⟨oz⟩,⟨bf⟩,⟨ay⟩⟩

def strings_Repeat.f (a0:ByteArray) (a1:Int):Option (ByteArray):=if 0≤a1∧a1≤9223372036854775807∧a0.size * a1.toNat≤140737488355328 then some ⟨(Lib.repeatL a0.data.toList a1.toNat).toArray⟩ else none
theorem strings_Repeat.calls (a0:ByteArray) (a1:Int) (r:ByteArray) (w:World) (h:strings_Repeat.f a0 a1=some r) :
  Calls Tryz.prog 165 #[.string a0,ah a1] w fun e w'=>e=.returned (.string r)∧Below w.heap.size w w':=by
 unfold strings_Repeat.f at h
 split at h
 case isFalse=>cases h
 case isTrue hc =>
  obtain ⟨h0,h1,h2⟩:=hc;obtain ⟨c,rfl⟩:=Int.eq_ofNat_of_zero_le h0;obtain rfl:=bQ h;exact Tryz.strings_Repeat a0 c w (by omega) h2

def zD.f (a0:ByteArray) (a1:Int):Option (ByteArray):=(strings_Repeat.f (⟨#[0]⟩:ByteArray) (mx 0 (wrap64 (a1 - (a0.size:Int))))).bind fun a5=>(if a0.size+a5.size≤9223372036854775807 then (some (a0++a5)) else (none))
theorem zD.calls (a0:ByteArray) (a1:Int) (r:ByteArray) (w:World) (h:zD.f a0 a1=some r) :
  Calls Tryz.prog 154 #[.string a0,ah a1] w fun e w'=>e=.returned (.string r)∧Below w.heap.size w w':=by
 have HB:=m_ (Below.refl w.heap.size w);unfold zD.f at h
 have H:=h;clear h;obtain ⟨Jy,Jl⟩:∃ mZ:Int,(mx 0 (wrap64 (a1 - (a0.size:Int))))=mZ:=⟨_,rfl⟩;replace H:((strings_Repeat.f (⟨#[0]⟩:ByteArray) (Jy)).bind fun a5=>(if a0.size+a5.size≤9223372036854775807 then (some (a0++a5)) else (none)))=some r:=by first|(rw [Jl] at H;exact H)|(simp only [Jl] at H ⊢;exact H)
 (try (have aAC:0≤Jy:=by (rw [← Jl];unfold mx;(repeat' split) <;> omega)))
 (try (have aAD:0≤Jy:=by omega))
 have aAB:(if 0 < (wrap64 (a1 - (a0.size:Int))) then (wrap64 (a1 - (a0.size:Int))) else 0)=Jy:=Jl;obtain ⟨a5,A4,H⟩:=bd_ H;obtain ⟨c5,H⟩:=lT H;have a6:=eq_true c5;have a7:=nJ c5;try have a8:(9223372036854775807 < a0.size+a5.size)=False:=eq_false (Nat.not_lt.2 c5)
 obtain rfl:=bQ H;go_enter func154,ntmps154
 go_wp2_with (first|((with_reducible refine cu 165 ?_);refine cO (some 11) rfl rfl func165 aC rfl #[.string (⟨#[0]⟩:ByteArray),ah Jy] rfl (by (try simp only [List.map_toArray,List.map_cons,List.map_nil]);first|done|(simp only [Jl];rfl)|rfl|(simp only [List.length_drop,List.length_take];rfl)) ?_;(with_reducible refine (strings_Repeat.calls (⟨#[0]⟩:ByteArray) Jy a5 _ A4.out).mono ?_);rintro e w6 ⟨rfl,hb⟩;refine ⟨_,rfl,?_⟩;have dH:=m_ (dV ay hb);clear HB;have HB:=dH;clear dH;(try clear hb)))
 go_ret
 exact ⟨(by first|rfl|(simp [sS,sU] <;> rfl)|(simp only [← Jl];first|rfl|(simp [sS,sU] <;> rfl))|(simp [*,sS,sU] <;> rfl)),ay⟩

def Fp.f (a0:ByteArray) (a1:Int):Option (ByteArray):=(xY.f a1 0 128).bind fun a6=>(if a6=true then ((zD.f a0 a1).bind fun a5=>(if 0≤a1 then (if a1≤(a5.size:Int) then (some (a5.extract 0 (a1:Int).toNat)) else (none)) else (none))) else (some a0))
theorem Fp.calls (a0:ByteArray) (a1:Int) (r:ByteArray) (w:World) (h:Fp.f a0 a1=some r) :
  Calls Tryz.prog 141 #[.string a0,ah a1] w fun e w'=>e=.returned (.string r)∧Below w.heap.size w w':=by
 have HB:=m_ (Below.refl w.heap.size w);unfold Fp.f at h
 have H:=h;clear h;obtain ⟨a5,A3,H⟩:=bd_ H;have a7:=m_ H;clear H;go_enter func141,ntmps141
 go_upto_if 7 with (first|((with_reducible refine cu 100 ?_);refine cO (some 6) rfl rfl func100 aC rfl #[ah a1,ah 0,ah 128] rfl bJ ?_;(with_reducible refine (xY.calls a1 0 128 a5 _ A3.out).mono ?_);rintro e w' ⟨rfl,⟨nd,rfl⟩⟩;refine ⟨_,rfl,?_⟩))
 (try simp only [fM])
 obtain ⟨H⟩:=a7;by_cases c5:a5=true
 rotate_left
 ·replace c5:=Bool.eq_false_iff.mpr c5;subst c5;rw [if_neg iF] at H;obtain rfl:=bQ H;go_wp2
  go_ret
  exact ⟨bK,ay⟩
 subst c5;rw [if_pos rfl] at H;obtain ⟨a6,A6,H⟩:=bd_ H;obtain ⟨a8,a9,H⟩:=jF H;obtain ⟨aa,ab,H⟩:=jF H;obtain rfl:=bQ H;go_wp2_with (first|((with_reducible refine cu 154 ?_);refine cO (some 11) rfl rfl func154 aC rfl #[.string a0,ah a1] rfl bJ ?_;(with_reducible refine (zD.calls a0 a1 a6 _ A6.out).mono ?_);rintro e w9 ⟨rfl,hb⟩;refine ⟨_,rfl,?_⟩;have dH:=m_ (dV ay hb);clear HB;have HB:=dH;clear dH;(try clear hb)))
 go_ret
 exact ⟨bK,ay⟩

def Fq.f (a0:ByteArray) (a1:Int) (a2:ByteArray):Option (ByteArray):=if a2.toList=([]:List UInt8) then (some a0) else (if a1 < 0 then (some a0) else (if a1 > 128 then (some a0) else (if (mx (a0.size:Int) (wrap64 (a1+(a2.size:Int)))) > 128 then (some a0) else ((zD.f a0 a1).bind fun a5=>(if 0≤a1 then (if a1≤(a5.size:Int) then (if (a5.extract 0 (a1:Int).toNat).size+a2.size≤9223372036854775807 then (if 0≤(mn (wrap64 (a1+(a2.size:Int))) (a5.size:Int)) then (if (mn (wrap64 (a1+(a2.size:Int))) (a5.size:Int))≤(a5.size:Int) then (if ((a5.extract 0 (a1:Int).toNat)++a2).size+(a5.extract ((mn (wrap64 (a1+(a2.size:Int))) (a5.size:Int)):Int).toNat a5.size).size≤9223372036854775807 then (some (((a5.extract 0 (a1:Int).toNat)++a2)++(a5.extract ((mn (wrap64 (a1+(a2.size:Int))) (a5.size:Int)):Int).toNat a5.size))) else (none)) else (none)) else (none)) else (none)) else (none)) else (none))))))
theorem Fq.calls (a0:ByteArray) (a1:Int) (a2:ByteArray) (r:ByteArray) (w:World) (h:Fq.f a0 a1 a2=some r) :
  Calls Tryz.prog 142 #[.string a0,ah a1,.string a2] w fun e w'=>e=.returned (.string r)∧Below w.heap.size w w':=by
 have HB:=m_ (Below.refl w.heap.size w);unfold Fq.f at h
 have H:=h;clear h;revert H;refine eU (fun c4 H=>?_) fun c4 H=>?_
 ·have a6:=fU c4;have a7:=fV c4;clear c4;obtain rfl:=bQ H;go_enter func142,ntmps142
  go_wp2
  repeat (go_quiet (fail);try go_wp2)
  go_ret
  exact ⟨bK,ay⟩
 have a6:=fZ c4;have a7:=f_ c4;revert H;refine fB (fun a8 H=>?_) fun a8 H=>?_
 ·obtain rfl:=bQ H;go_enter func142,ntmps142
  go_wp2
  repeat (go_quiet (fail);try go_wp2)
  go_ret
  exact ⟨bK,ay⟩
 revert H;refine fB (fun a9 H=>?_) fun a9 H=>?_
 ·obtain rfl:=bQ H;go_enter func142,ntmps142
  go_wp2
  repeat (go_quiet (fail);try go_wp2)
  go_ret
  exact ⟨bK,ay⟩
 obtain ⟨je,Bg⟩:∃ mZ:Int,(mx (a0.size:Int) (wrap64 (a1+(a2.size:Int))))=mZ:=⟨_,rfl⟩;replace H:(if (je) > 128 then (some a0) else ((zD.f a0 a1).bind fun a5=>(if 0≤a1 then (if a1≤(a5.size:Int) then (if (a5.extract 0 (a1:Int).toNat).size+a2.size≤9223372036854775807 then (if 0≤(mn (wrap64 (a1+(a2.size:Int))) (a5.size:Int)) then (if (mn (wrap64 (a1+(a2.size:Int))) (a5.size:Int))≤(a5.size:Int) then (if ((a5.extract 0 (a1:Int).toNat)++a2).size+(a5.extract ((mn (wrap64 (a1+(a2.size:Int))) (a5.size:Int)):Int).toNat a5.size).size≤9223372036854775807 then (some (((a5.extract 0 (a1:Int).toNat)++a2)++(a5.extract ((mn (wrap64 (a1+(a2.size:Int))) (a5.size:Int)):Int).toNat a5.size))) else (none)) else (none)) else (none)) else (none)) else (none)) else (none))))=some r:=by first|(rw [Bg] at H;exact H)|(simp only [Bg] at H ⊢;exact H)
 (try (have aAJ:0≤je:=by (rw [← Bg];unfold mx;(repeat' split) <;> omega)))
 (try (have aAK:0≤je:=by omega))
 have aAI:(if (a0.size:Int) < (wrap64 (a1+(a2.size:Int))) then (wrap64 (a1+(a2.size:Int))) else (a0.size:Int))=je:=Bg;revert H;refine fB (fun aa H=>?_) fun aa H=>?_
 ·obtain rfl:=bQ H;go_enter func142,ntmps142
  go_wp2
  repeat (go_quiet (fail);try go_wp2)
  go_ret
  exact ⟨(by first|rfl|(simp [sS,sU] <;> rfl)|(simp only [← Bg];first|rfl|(simp [sS,sU] <;> rfl))|(simp [*,sS,sU] <;> rfl)),ay⟩
 obtain ⟨a5,A9,H⟩:=bd_ H;obtain ⟨ai,aH,H⟩:=jF H;obtain ⟨aO,al,H⟩:=jF H;obtain ⟨ae,H⟩:=lT H;have am:=eq_true ae;have an:=nJ ae;try have ao:(9223372036854775807 < (a5.extract 0 (a1:Int).toNat).size+a2.size)=False:=eq_false (Nat.not_lt.2 ae)
 obtain ⟨Jw,Lr⟩:∃ mZ:Int,(mn (wrap64 (a1+(a2.size:Int))) (a5.size:Int))=mZ:=⟨_,rfl⟩;replace H:(if 0≤(Jw) then (if (Jw)≤(a5.size:Int) then (if ((a5.extract 0 (a1:Int).toNat)++a2).size+(a5.extract ((Jw):Int).toNat a5.size).size≤9223372036854775807 then (some (((a5.extract 0 (a1:Int).toNat)++a2)++(a5.extract ((Jw):Int).toNat a5.size))) else (none)) else (none)) else (none))=some r:=by first|(rw [Lr] at H;exact H)|(simp only [Lr] at H ⊢;exact H)
 (try rw [Lr] at A9)
 have aAv:(if (a5.size:Int) < (wrap64 (a1+(a2.size:Int))) then (a5.size:Int) else (wrap64 (a1+(a2.size:Int))))=Jw:=Lr;obtain ⟨ap,aq,H⟩:=jF H;obtain ⟨ar,aT,H⟩:=jF H;obtain ⟨aK,H⟩:=lT H;have av:=eq_true aK;have aw:=nJ aK;try have ax:(9223372036854775807 < ((a5.extract 0 (a1:Int).toNat)++a2).size+(a5.extract ((Jw):Int).toNat a5.size).size)=False:=eq_false (Nat.not_lt.2 aK)
 obtain rfl:=bQ H;go_enter func142,ntmps142
 go_wp2_with (first|(go_at_call 154;(with_reducible refine (zD.calls a0 a1 a5 _ A9.out).mono ?_);rintro e bD ⟨rfl,hb⟩;have dH:=m_ (dV ay hb);clear HB;have HB:=dH;clear dH;(try clear hb)))
 repeat (go_quiet (first|(go_at_call 154;(with_reducible refine (zD.calls a0 a1 a5 _ A9.out).mono ?_);rintro e bD ⟨rfl,hb⟩;have dH:=m_ (dV ay hb);clear HB;have HB:=dH;clear dH;(try clear hb)));try go_wp2_with (first|(go_at_call 154;(with_reducible refine (zD.calls a0 a1 a5 _ A9.out).mono ?_);rintro e bD ⟨rfl,hb⟩;have dH:=m_ (dV ay hb);clear HB;have HB:=dH;clear dH;(try clear hb))))
 go_ret
 exact ⟨(by first|rfl|(simp [sS,sU] <;> rfl)|(simp only [← Bg,← Lr];first|rfl|(simp [sS,sU] <;> rfl))|(simp [*,sS,sU] <;> rfl)),ay⟩

end Go.Proofs.YthejdhjpbpamoaaGreatDoor.pU
