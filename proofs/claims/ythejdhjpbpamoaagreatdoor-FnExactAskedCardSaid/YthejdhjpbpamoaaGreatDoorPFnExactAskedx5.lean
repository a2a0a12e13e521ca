/- Calls return what the Lean functions beside them compute. Conditions: each theorem's own. -/
import Derived.Test.YthejdhjpbpamoaaGreatDoorPkFnExactAsked
import Derived.Test.YthejdhjpbpamoaaGreatDoorPFnExactAskedx2
namespace Go.Proofs.YthejdhjpbpamoaaGreatDoor.pU
open Go.RowKit Go.Proofs.YthejdhjpbpamoaaGreatDoorW.jk Go.Proofs.YthejdhjpbpamoaaGreatDoorW.qI Go.Proofs.YthejdhjpbpamoaaGreatDoorW.vV Go.Proofs.Tryz
attribute [local go_sem] yN yR yQ yU yP yT yO yS
set_option linter.unusedVariables false
set_option maxHeartbeats 8000000
set_option maxRecDepth 100000
set_option linter.unusedSimpArgs false

def xX.f (k:Nat) (a0:ByteArray):Option (ByteArray):=(mY.f k a0).bind fun a5=>(if a5.2=0 then (if (a5.1.length:Int)=0 then (some (⟨#[]⟩:ByteArray)) else (if 0≤(wrap64 ((a5.1.length:Int) - 1)) then (if (wrap64 ((a5.1.length:Int) - 1))≤(a5.1.length:Int) then ((Ai.f (a5.1.take ((wrap64 ((a5.1.length:Int) - 1)):Int).toNat)).bind fun a6=>(some a6)) else (none)) else (none))) else (some (⟨#[]⟩:ByteArray)))
theorem xX.calls (k:Nat) (a0:ByteArray) (r:ByteArray) (w:World) (kN:jg w) (h:xX.f k a0=some r) :
  Calls Tryz.prog 59 #[.string a0] w fun e w'=>e=.returned (.string r)∧Below w.heap.size w w':=by
 have HD:=m_ kN;clear kN;have HB:=m_ (Below.refl w.heap.size w);unfold xX.f at h
 have H:=h;clear h;obtain ⟨⟨a5,ac⟩,A2,H⟩:=bd_ H;revert H;refine eU (fun c3 H=>?_) fun c3 H=>?_;rotate_left
 ·have aK:=fZ c3;have ai:=f_ c3;obtain rfl:=bQ H;go_enter func59,ntmps59
  go_wp2_with (first|((with_reducible refine cu 57 ?_);refine cO (some 7) rfl rfl func57 aC rfl #[.string a0] rfl bJ ?_;(with_reducible refine (mY.calls k a0 a5 ac _ (jg.below HD.out ay) A2.out).mono ?_);rintro e ax ⟨aoG,rfl,ho0,hb⟩;refine ⟨_,rfl,?_⟩;obtain ⟨a6,HB⟩:=p_ (Kd.dR ho0 (bU ay)) <| a_ (dV ay hb);(try clear hb);(try clear ho0)))
  go_ret
  exact ⟨bK,ay⟩
 have aK:=fU c3;have ai:=fV c3;clear c3;have an:=m_ H;clear H;go_enter func59,ntmps59
 go_upto_if 16 with (first|((with_reducible refine cu 57 ?_);refine cO (some 7) rfl rfl func57 aC rfl #[.string a0] rfl bJ ?_;(with_reducible refine (mY.calls k a0 a5 ac _ (jg.below HD.out ay) A2.out).mono ?_);rintro e w5 ⟨aoG,rfl,ho0,hb⟩;refine ⟨_,rfl,?_⟩;obtain ⟨a6,HB⟩:=p_ (Kd.dR ho0 (bU ay)) <| a_ (dV ay hb);(try clear hb);(try clear ho0);obtain ⟨aH,ag,aq⟩:=Kd.dN a6.out;subst aq))
 (try simp only [fM])
 obtain ⟨H⟩:=an;revert H;refine eU (fun c7 H=>?_) fun c7 H=>?_
 ·have a7:=fU c7;have aO:=fV c7;clear c7;try simp only [aV,aZ,a7]
  obtain rfl:=bQ H;go_wp2
  go_ret
  exact ⟨bK,ay⟩
 have a7:=fZ c7;have aO:=f_ c7;have ar:¬ (a5=[]):=fun bI=>c7 (by rw [bI];rfl);try simp only [aV,aZ,a7]
 obtain ⟨jo,sW⟩:∃ mZ:Int,(wrap64 ((a5.length:Int) - 1))=mZ:=⟨_,rfl⟩;replace H:(if 0≤(jo) then (if (jo)≤(a5.length:Int) then ((Ai.f (a5.take ((jo):Int).toNat)).bind fun a8=>(some a8)) else (none)) else (none))=some r:=by first|(rw [sW] at H;exact H)|(simp only [sW] at H ⊢;exact H)
 have Pm:(IntKind.i64.wrap ((a5.length:Int) - 1))=jo:=(aV _).trans sW;obtain ⟨aT,av,H⟩:=jF H;obtain ⟨ao,ap,H⟩:=jF H;obtain ⟨a9,aa⟩:∃ y_:List ByteArray,y_=(a5.take ((jo):Int).toNat):=⟨_,rfl⟩;rw [← aa] at H;have ab:=m_ aa;clear aa;obtain ⟨a8,aw,H⟩:=bd_ H;obtain rfl:=bQ H;have am:((jo):Int)≤((a5.length:Int):Int):=aX aY;obtain ⟨alY,Lp,_,VG,_⟩:=info_parts info9;have LU:a5.length≤ag:=(Kd.dn a6.out).2.1;have Lm:Kd.C Kd.string _ aH a5.length a5:=(Kd.dn a6.out).2.2;have TK:=EP (P:=Tryz.prog) 38 9 .i64 underlying38 Lp aH a5.length ag (jo) (aX aY) am LU;have E_:=Kd.yx (m:=((jo):Int).toNat) Lm (by omega);have ae:a9.length=((jo):Int).toNat:=(by rw [ab.out,List.length_take];omega);rw [← ab.out] at E_;rw [← ae] at TK;have Ri:=m_ E_;have af:=m_ (show a9.length≤ag from by omega);clear E_ Lm LU Lp VG;have aeR:=m_ ae;clear ae;have aeO:=m_ (show ((jo):Int).toNat≤a5.length from by omega);replace am:=eq_true am;go_wp2_with (first|((with_reducible refine cu 70 ?_);refine cO (some 22) rfl rfl func70 aC rfl #[.slice aH a9.length ag] rfl bJ ?_;(with_reducible refine (Ai.calls _ _ a9 a8 _ ?jW af.out aw.out).mono ?_);(case jW=>repeat (first|exact adf|(with_reducible refine Kd.kM ?_ _)|(with_reducible refine Kd.kR ?_ _)|(with_reducible refine Kd.kQ ?_)));rintro e bD ⟨rfl,hb⟩;refine ⟨_,rfl,?_⟩;obtain ⟨a6,Ri,HB⟩:=p_ (Kd.bG (aN a6) hb) <| p_ (Kd.qP adf hb) <| a_ (dV ay hb);(try clear hb)))
 go_ret
 exact ⟨Qq,ay⟩

def Fj.f (k:Nat) (a0:ByteArray):Option (ByteArray):=(mY.f k a0).bind fun a5=>(if a5.2=0 then (if (a5.1.length:Int)=0 then (some (⟨#[]⟩:ByteArray)) else (if 0≤(wrap64 ((a5.1.length:Int) - 1)) then (if (wrap64 ((a5.1.length:Int) - 1)) < (a5.1.length:Int) then (some (qV ByteArray.empty a5.1 (wrap64 ((a5.1.length:Int) - 1)))) else (none)) else (none))) else (some (⟨#[]⟩:ByteArray)))
theorem Fj.calls (k:Nat) (a0:ByteArray) (r:ByteArray) (w:World) (kN:jg w) (h:Fj.f k a0=some r) :
  Calls Tryz.prog 62 #[.string a0] w fun e w'=>e=.returned (.string r)∧Below w.heap.size w w':=by
 have HD:=m_ kN;clear kN;have HB:=m_ (Below.refl w.heap.size w);unfold Fj.f at h
 have H:=h;clear h;obtain ⟨⟨a5,a8⟩,A2,H⟩:=bd_ H;revert H;refine eU (fun c3 H=>?_) fun c3 H=>?_;rotate_left
 ·have ac:=fZ c3;have ae:=f_ c3;obtain rfl:=bQ H;go_enter func62,ntmps62
  go_wp2_with (first|((with_reducible refine cu 57 ?_);refine cO (some 7) rfl rfl func57 aC rfl #[.string a0] rfl bJ ?_;(with_reducible refine (mY.calls k a0 a5 a8 _ (jg.below HD.out ay) A2.out).mono ?_);rintro e ao ⟨aoH,rfl,ho0,hb⟩;refine ⟨_,rfl,?_⟩;obtain ⟨a6,HB⟩:=p_ (Kd.dR ho0 (bU ay)) <| a_ (dV ay hb);(try clear hb);(try clear ho0)))
  go_ret
  exact ⟨bK,ay⟩
 have ac:=fU c3;have ae:=fV c3;clear c3;have aK:=m_ H;clear H;go_enter func62,ntmps62
 go_upto_if 16 with (first|((with_reducible refine cu 57 ?_);refine cO (some 7) rfl rfl func57 aC rfl #[.string a0] rfl bJ ?_;(with_reducible refine (mY.calls k a0 a5 a8 _ (jg.below HD.out ay) A2.out).mono ?_);rintro e w5 ⟨aoH,rfl,ho0,hb⟩;refine ⟨_,rfl,?_⟩;obtain ⟨a6,HB⟩:=p_ (Kd.dR ho0 (bU ay)) <| a_ (dV ay hb);(try clear hb);(try clear ho0);obtain ⟨ap,aq,al⟩:=Kd.dN a6.out;subst al))
 (try simp only [fM])
 obtain ⟨H⟩:=aK;revert H;refine eU (fun c7 H=>?_) fun c7 H=>?_
 ·have a7:=fU c7;have af:=fV c7;clear c7;try simp only [aV,aZ,a7]
  obtain rfl:=bQ H;go_wp2
  go_ret
  exact ⟨bK,ay⟩
 have a7:=fZ c7;have af:=f_ c7;have am:¬ (a5=[]):=fun bI=>c7 (by rw [bI];rfl);try simp only [aV,aZ,a7]
 obtain ⟨jo,sW⟩:∃ mZ:Int,(wrap64 ((a5.length:Int) - 1))=mZ:=⟨_,rfl⟩;replace H:(if 0≤(jo) then (if (jo) < (a5.length:Int) then (some (qV ByteArray.empty a5 (jo))) else (none)) else (none))=some r:=by first|(rw [sW] at H;exact H)|(simp only [sW] at H ⊢;exact H)
 have Pm:(IntKind.i64.wrap ((a5.length:Int) - 1))=jo:=(aV _).trans sW;obtain ⟨an,H⟩:=gI H;obtain ⟨aH,H⟩:=gI H;obtain rfl:=bQ H;have a9:0≤((jo):Int):=aX aY;have aa:(jo) < (a5.length:Int):=aX aY;obtain ⟨aO,ag,ab⟩:=Kd.Aa (Kd.dn a6.out).2.2 (jo) a9 aa;cases ag;replace a9:=eq_true a9;replace aa:=eq_true aa;go_wp2
 go_ret
 exact ⟨Qq,ay⟩

def uz.l0:Nat→ByteArray→List ByteArray→List (aF)→Int→Int→Option (List ByteArray)
 | 0,_,_,_,_,_=>none
 | k+1,x1,x5,a6,a7,a5=>if a5 < a7 then (if 0≤a5 then (if a5 < (a6.length:Int) then ((xX.f k ((aB a6 a5).f0)).bind fun a8=>(if a8.toList=x1.toList then ((Fj.f k ((aB a6 a5).f0)).bind fun a9=>(if x5.length < 8796093022208 then (uz.l0 k x1 (x5++[a9]) a6 a7 (wrap64 (a5+1))) else (none))) else (uz.l0 k x1 x5 a6 a7 (wrap64 (a5+1))))) else (none)) else (none)) else (some x5)
def uz.f (k:Nat) (a5:List (aF)) (a1:ByteArray):Option (List ByteArray):=if a1.toList=([]:List UInt8) then (some ([]:List ByteArray)) else (uz.l0 k a1 (([]:List ByteArray)) a5 (a5.length:Int) 0)
theorem uz.calls (k:Nat) (am:Option Addr) (aK:Nat) (aI:List (aF)) (a1:ByteArray) (r:List ByteArray) (w:World) (kN:jg w) (ao:Kd.C aS w am aI.length aI) (ap:aI.length≤aK) (h:uz.f k aI a1=some r) :
  Calls Tryz.prog 18 #[.agg #[.slice am aI.length aK],.string a1] w fun e w'=>∃ fC:Value,e=.returned (fC)∧Kd.R Kd.string 9 w' w.heap.size (fun _=>True) fC r∧Below w.heap.size w w':=by
 have nT:=underlying28;have tX:=underlying43;have lg:=m_ ao;have bd:=m_ ap;clear ao ap;have HD:=m_ kN;clear kN;have HB:=m_ (Below.refl w.heap.size w);unfold uz.f at h
 have H:=h;clear h;have be:=m_ H;clear H;go_enter func18,ntmps18
 go_upto_if 9 with (first|((with_reducible refine dJ 2 ?_);refine dO 2 (cs:=#[.slice am aI.length aK]) 28 ?_;intro aH hg w4 hbox hb;obtain ⟨HB,a5,fA,dL⟩:=jR ay hb hbox hg;clear hb hbox hg))
 (try simp only [fM])
 obtain ⟨H⟩:=be;revert H;refine eU (fun c5 H=>?_) fun c5 H=>?_
 ·have af:=fU c5;have bD:=fV c5;clear c5;(first|rw [af]|(simp only [aV,aZ];rw [af])|rw [show (a1.toList).isEmpty=true from by simpa using af]|skip)
  obtain rfl:=bQ H;go_wp2
  go_ret
  exact ⟨_,bK,lH,ay⟩
 have af:=fZ c5;have bD:=f_ c5;(first|rw [af]|(simp only [aV,aZ];rw [af])|rw [show (a1.toList).isEmpty=false from by simpa using af]|skip)
 obtain ⟨az,aO⟩:∃ y_:List ByteArray,y_=(([]:List ByteArray)):=⟨_,rfl⟩;rw [← aO] at H;have aq:=m_ aO;clear aO;have H':=m_ H;clear H;go_wp2_with (first|((with_reducible refine dJ 10 ?_);refine Kd.AZ Kd.string _ 9 ?hg (N:=10) ?hd (xs:=([]:List ByteArray)) (inner:=[]) (ok:=fun _=>True) (jG:=fun _=>True) ?hr ?hp (fun _ hk=>hk) trivial (Below.refl _ _) (Nat.le_refl _) (by simp) ?_;(case hd=>rfl);(case hg=>rfl);(case hr=>first|(go_simp;done)|(go_simp;rfl));(case hp=>exact (gu.none _ _));intro aCN w6 LK hb mF mG;clear mF mG;(first|rw [← aq.out] at LK|(simp only [Int.reduceToNat] at LK;rw [← aq.out] at LK));obtain ⟨b0,a5,HB⟩:=p_ (Kd.dR LK (bU ay)) <| qA (au a5) ay hb;clear hb LK;have y7:=bZ a5.out))
 go_loopg [5,14] k (fun kq v5 v14 w'=>∃ (ai:List ByteArray) (a6:Int),v14=ah a6∧aA (uz.l0 kq a1 ai aI (aI.length:Int) a6=some r)∧aA (kq≤k)∧aA (Kd.R Kd.string 9 w' w.heap.size (fun _=>True) v5 ai)∧aA (w'.heap[aH]?=some (.cells #[(.slice am aI.length aK)] 28))∧aA (Below w.heap.size w w'))
 case atStart=>exact ⟨(az),(0),bC,H',⟨Nat.le_refl _⟩,⟨(aN b0)⟩,⟨(au a5)⟩,⟨ay⟩⟩
 case round =>
 clear H';try clear c5;try clear af;try clear bD;try clear y7
 obtain ⟨ai,a6,rfl,HA,gG,a8,a5,HB⟩:=hrel;cases gk with
 | zero=>exact absurd HA.out (by simp [uz.l0])
 | succ k1 =>
 obtain ⟨H⟩:=HA;simp only [uz.l0] at H
 revert H;refine fB (fun ba H=>?_) fun ba H=>?_;rotate_left
 ·obtain rfl:=bQ H;go_wp2
  go_ret
  exact ⟨_,bK,(aN a8),ay⟩
 obtain ⟨bi,H⟩:=gI H;obtain ⟨bl,H⟩:=gI H;obtain ⟨b1,br,H⟩:=bd_ H;have b2:=m_ H;clear H;have av:0≤(a6:Int):=aX aY;have aw:a6 < (aI.length:Int):=aX aY;obtain ⟨ar,bb,ab,ac,ae⟩:=jV lg.out a6 av aw;cases bb;replace ab:=fF HB.out ab;replace ac:=fF HB.out ac;replace ae:=fF HB.out ae;replace av:=eq_true av;replace aw:=eq_true aw;go_upto_if 22 with (first|((with_reducible refine dJ 7 ?_);refine dO 7 (cs:=#[.string (⟨#[]⟩:ByteArray),.bool false,.string (⟨#[]⟩:ByteArray)]) 43 ?_;intro aT hg bv hbox hb;obtain ⟨a8,a5,HB,a7,bm,fG,a9,aa⟩:=p_ (Kd.bG (aN a8) hb) <| oO (au a5) ay hb hbox hg;clear hb hbox hg;obtain ⟨bo,bp⟩:=gy aa a9;have bc:=qj a7.out)|((with_reducible refine cu 59 ?_);refine cO (some 20) rfl rfl func59 aC rfl #[.string ((aB aI a6).f0)] rfl bJ ?_;(with_reducible refine (xX.calls k1 ((aB aI a6).f0) b1 _ (jg.below HD.out ay) br.out).mono ?_);rintro e bw ⟨rfl,hb⟩;refine ⟨_,rfl,?_⟩;have ji:=p_ (Kd.bG (by (with_reducible repeat (first|apply Kd.bW|apply Kd.bY|apply Kd.bH));exact (Kd.bF (aJ (aJ (aJ (Kd.bV a8.out a7.out (by decide))))) (fun _ bI=>bI.1))) hb) <| p_ (aU (g:=aH) (o:=.cells #[.slice (some ar) aI.length aK] 28) (qK a5.out a9.out) hb) <| p_ (aU (g:=aT) (o:=.cells #[.string ((aB aI a6).f0),.bool ((aB aI a6).f1),.string ((aB aI a6).f2)] 43) (DV a7.out) hb) <| a_ (dV ay hb);clear a8 a5 a7 HB;obtain ⟨a8,a5,a7,HB⟩:=ji;(try clear hb);(try clear hk)))
 (try simp only [fM])
 (try clear bc)
 (try clear ab ac ae)
 obtain ⟨H⟩:=b2;revert H;refine eU (fun ax H=>?_) fun ax H=>?_;rotate_left
 ·have ag:=fZ ax;have b3:=f_ ax;try simp only [aV,aZ,ag]
  have H':=m_ H;clear H;go_wp2
  go_roundg k1
  case measure=>have:=gG.out;omega
  case rel=>exact ⟨(ai),(wrap64 (a6+1)),bC,H',⟨oz⟩,⟨(aN a8)⟩,⟨(au a5)⟩,⟨ay⟩⟩
 have ag:=fU ax;have b3:=fV ax;clear ax;try simp only [aV,aZ,ag]
 obtain ⟨an,bs,H⟩:=bd_ H;obtain ⟨bq,H⟩:=lT H;have b4:=m_ bq;clear bq;obtain ⟨b5,al⟩:∃ y_:List ByteArray,y_=(ai++[an]):=⟨_,rfl⟩;rw [← al] at H;have b6:=m_ al;clear al;have H':=m_ H;clear H;obtain ⟨b7,b8⟩:=gy aa a9;have bu:=qj a7.out;go_wp2_with (first|((with_reducible refine cu 62 ?_);refine cO (some 26) rfl rfl func62 aC rfl #[.string ((aB aI a6).f0)] rfl bJ ?_;(with_reducible refine (Fj.calls k1 ((aB aI a6).f0) an _ (jg.below HD.out ay) bs.out).mono ?_);rintro e bx ⟨rfl,hb⟩;refine ⟨_,rfl,?_⟩;obtain ⟨a8,a5,a7,HB⟩:=p_ (Kd.bG (aN a8) hb) <| Hl (au a5) (au a7) ay hb;(try clear hb))|((with_reducible refine zu (b:=.append) (xs:=#[.tmp 23,.tmp 27]) rfl ?_);at_builtin;refine Kd.GI Kd.string (w0:=w) w.heap.size rfl (.tmp 23) (.tmp 27) 38 9 (.string ⟨#[]⟩) 16 rfl underlying38 info9 rfl (by decide) (by omega) u5 ai an [.string an] (fun _=>True) (fun _=>False) rfl rfl ?vM (fun _ hk=>hk.elim) ?mX ?l7 ?lZ ?l9 ?aL ?_;(case vM=>exact rfl);(case lZ=>exact ay);(case mX=>exact (fun _ _=>trivial));(case l7=>exact (aN a8));(case l9=>exact (bU ay));(case aL=>have:=b4.out;omega);intro v193 bz ho hb hg hat;rw [← b6.out] at ho;obtain ⟨a5,a7,HB,b9⟩:=p_ (iT (g:=aH) (o:=.cells #[.slice (some ar) aI.length aK] 28) (au a5) hg (Kd.fD a8.out a5.out (by decide))) <| p_ (iT (g:=aT) (o:=.cells #[.string ((aB aI a6).f0),.bool ((aB aI a6).f1),.string ((aB aI a6).f2)] 43) (au a7) hg (Kd.fD a8.out a7.out (by decide))) <| p_ (hb) <| a_ (ho);clear ho hb hg hat))
 go_roundg k1
 case measure=>have:=gG.out;omega
 case rel=>exact ⟨(b5),(wrap64 (a6+1)),bC,H',⟨oz⟩,⟨(aN b9)⟩,⟨(au a5)⟩,⟨ay⟩⟩

def DJ.f (a6:List (aF)) (a1:ByteArray):Option (Bool):=(uy.f a6 a1).bind fun a5=>(if a1.toList=([47]:List UInt8) then (some true) else (if a5 ≥ 0 then (if 0≤a5 then (if a5 < (a6.length:Int) then (some ((aB a6 a5).f1)) else (none)) else (none)) else (some false)))
theorem DJ.calls (a6:Option Addr) (a7:Nat) (aI:List (aF)) (a1:ByteArray) (r:Bool) (w:World) (ae:Kd.C aS w a6 aI.length aI) (af:aI.length≤a7) (h:DJ.f aI a1=some r) :
  Calls Tryz.prog 58 #[.agg #[.slice a6 aI.length a7],.string a1] w fun e w'=>e=.returned (.bool r)∧Below w.heap.size w w':=by
 have nT:=underlying28;have lg:=m_ ae;have ac:=m_ af;clear ae af;have HB:=m_ (Below.refl w.heap.size w);unfold DJ.f at h
 have H:=h;clear h;obtain ⟨a8,A3,H⟩:=bd_ H;revert H;refine eU (fun c4 H=>?_) fun c4 H=>?_
 ·have al:=fU c4;have am:=fV c4;clear c4;obtain rfl:=bQ H;go_enter func58,ntmps58
  go_wp2_with (first|((with_reducible refine dJ 2 ?_);refine dO 2 (cs:=#[.slice a6 aI.length a7]) 28 ?_;intro ag hg w5 hbox hb;obtain ⟨HB,a5,aK,ai⟩:=jR ay hb hbox hg;clear hb hbox hg;have J_:=bZ a5.out)|((with_reducible refine cu 17 ?_);refine cO (some 8) rfl rfl func17 aC rfl #[.agg #[.slice a6 aI.length a7],.string a1] rfl bJ ?_;(with_reducible refine (uy.calls _ _ aI a1 a8 _ qp ac.out A3.out).mono ?_);rintro e w7 ⟨rfl,hb⟩;refine ⟨_,rfl,?_⟩;obtain ⟨a5,HB⟩:=qA (au a5) ay hb;(try clear hb)))
  go_ret
  exact ⟨bK,ay⟩
 have al:=fZ c4;have am:=f_ c4;revert H;refine fB (fun an H=>?_) fun an H=>?_;rotate_left
 ·obtain rfl:=bQ H;go_enter func58,ntmps58
  go_wp2_with (first|((with_reducible refine dJ 2 ?_);refine dO 2 (cs:=#[.slice a6 aI.length a7]) 28 ?_;intro ag hg av hbox hb;obtain ⟨HB,a5,aK,ai⟩:=jR ay hb hbox hg;clear hb hbox hg;have QI:=bZ a5.out)|((with_reducible refine cu 17 ?_);refine cO (some 8) rfl rfl func17 aC rfl #[.agg #[.slice a6 aI.length a7],.string a1] rfl bJ ?_;(with_reducible refine (uy.calls _ _ aI a1 a8 _ qp ac.out A3.out).mono ?_);rintro e aw ⟨rfl,hb⟩;refine ⟨_,rfl,?_⟩;obtain ⟨a5,HB⟩:=qA (au a5) ay hb;(try clear hb)))
  go_ret
  exact ⟨bK,ay⟩
 obtain ⟨aT,H⟩:=gI H;obtain ⟨aq,H⟩:=gI H;obtain rfl:=bQ H;go_enter func58,ntmps58
 go_wp2_with (first|((with_reducible refine dJ 2 ?_);refine dO 2 (cs:=#[.slice a6 aI.length a7]) 28 ?_;intro ag hg ax hbox hb;obtain ⟨HB,a5,aK,ai⟩:=jR ay hb hbox hg;clear hb hbox hg;have Ei:=bZ a5.out)|((with_reducible refine cu 17 ?_);refine cO (some 8) rfl rfl func17 aC rfl #[.agg #[.slice a6 aI.length a7],.string a1] rfl bJ ?_;(with_reducible refine (uy.calls _ _ aI a1 a8 _ qp ac.out A3.out).mono ?_);rintro e bD ⟨rfl,hb⟩;refine ⟨_,rfl,?_⟩;obtain ⟨a5,HB⟩:=qA (au a5) ay hb;(try clear hb);have QG:=bZ a5.out;have aH:0≤(a8:Int):=aX aY;have aO:a8 < (aI.length:Int):=aX aY;obtain ⟨ar,ao,a9,aa,ab⟩:=jV lg.out a8 aH aO;cases ao;replace a9:=fF HB.out a9;replace aa:=fF HB.out aa;replace ab:=fF HB.out ab;replace aH:=eq_true aH;replace aO:=eq_true aO))
 go_ret
 exact ⟨bK,ay⟩

def Bh.f (k:Nat) (a5:List (aF)) (a1:ByteArray):Option (Int):=(mY.f k a1).bind fun a6=>(if a6.2=0 then (if a1.toList=([47]:List UInt8) then (some 6) else ((xX.f k a1).bind fun a7=>((qR.f k a5 a7).bind fun a8=>(if a8=0 then ((DJ.f a5 a7).bind fun a9=>(if a9=true then ((uy.f a5 a1).bind fun aa=>(if aa ≥ 0 then (some 6) else ((uz.f k a5 a7).bind fun ab=>(if (ab.length:Int) ≥ 6 then (some 7) else (some 0))))) else (some 4))) else (some a8))))) else (some a6.2))
theorem Bh.calls (k:Nat) (aa:Option Addr) (ab:Nat) (aI:List (aF)) (a1:ByteArray) (r:Int) (w:World) (kN:jg w) (aK:Kd.C aS w aa aI.length aI) (ai:aI.length≤ab) (h:Bh.f k aI a1=some r) :
  Calls Tryz.prog 24 #[.agg #[.slice aa aI.length ab],.string a1] w fun e w'=>e=.returned (ah r)∧Below w.heap.size w w':=by
 have nT:=underlying28;have lg:=m_ aK;have ae:=m_ ai;clear aK ai;have HD:=m_ kN;clear kN;have HB:=m_ (Below.refl w.heap.size w);unfold Bh.f at h
 have H:=h;clear h;obtain ⟨⟨b0,am⟩,A3,H⟩:=bd_ H;have b5:=m_ H;clear H;go_enter func24,ntmps24
 go_upto_if 15 with (first|((with_reducible refine dJ 2 ?_);refine dO 2 (cs:=#[.slice aa aI.length ab]) 28 ?_;intro b6 hg w5 hbox hb;obtain ⟨HB,a5,b7,b8⟩:=jR ay hb hbox hg;clear hb hbox hg)|((with_reducible refine cu 57 ?_);refine cO (some 11) rfl rfl func57 aC rfl #[.string a1] rfl bJ ?_;(with_reducible refine (mY.calls k a1 b0 am _ (jg.below HD.out ay) A3.out).mono ?_);rintro e w6 ⟨v201,rfl,ho0,hb⟩;refine ⟨_,rfl,?_⟩;obtain ⟨a6,a5,HB⟩:=p_ (Kd.dR ho0 (bU ay)) <| qA (au a5) ay hb;(try clear hb);(try clear ho0)))
 (try simp only [fM])
 obtain ⟨H⟩:=b5;revert H;refine eU (fun c7 H=>?_) fun c7 H=>?_;rotate_left
 ·have af:=fZ c7;have b1:=f_ c7;try simp only [aV,aZ,af]
  obtain rfl:=bQ H;go_wp2
  go_ret
  exact ⟨bK,ay⟩
 have af:=fU c7;have b1:=fV c7;clear c7;try simp only [aV,aZ,af]
 revert H;refine eU (fun c8 H=>?_) fun c8 H=>?_
 ·have b2:=fU c8;have b3:=fV c8;clear c8;obtain rfl:=bQ H;go_wp2
  go_ret
  exact ⟨bK,ay⟩
 have b2:=fZ c8;have b3:=f_ c8;obtain ⟨ac,A9,H⟩:=bd_ H;obtain ⟨an,b9,H⟩:=bd_ H;have ao:=m_ H;clear H;go_upto_if 25 with (first|((with_reducible refine cu 59 ?_);refine cO (some 20) rfl rfl func59 aC rfl #[.string a1] rfl bJ ?_;(with_reducible refine (xX.calls k a1 ac _ (jg.below HD.out ay) A9.out).mono ?_);rintro e fA ⟨rfl,hb⟩;refine ⟨_,rfl,?_⟩;obtain ⟨a6,a5,HB⟩:=p_ (Kd.bG (aN a6) hb) <| qA (au a5) ay hb;(try clear hb);have Dc:=bZ a5.out)|((with_reducible refine cu 25 ?_);refine cO (some 23) rfl rfl func25 aC rfl #[.agg #[.slice aa aI.length ab],.string ac] rfl bJ ?_;(with_reducible refine (qR.calls k _ _ aI ac an _ (jg.below HD.out ay) qp ae.out b9.out).mono ?_);rintro e dL ⟨rfl,hb⟩;refine ⟨_,rfl,?_⟩;obtain ⟨a6,a5,HB⟩:=p_ (Kd.bG (aN a6) hb) <| qA (au a5) ay hb;(try clear hb)))
 (try simp only [fM])
 (try clear Dc)
 obtain ⟨H⟩:=ao;revert H;refine eU (fun aH H=>?_) fun aH H=>?_;rotate_left
 ·have a7:=fZ aH;have ap:=f_ aH;try simp only [aV,aZ,a7]
  obtain rfl:=bQ H;go_wp2
  go_ret
  exact ⟨bK,ay⟩
 have a7:=fU aH;have ap:=fV aH;clear aH;try simp only [aV,aZ,a7]
 obtain ⟨aq,ba,H⟩:=bd_ H;have ar:=m_ H;clear H;have J9:=bZ a5.out;go_upto_if 27 with (first|((with_reducible refine cu 58 ?_);refine cO (some 30) rfl rfl func58 aC rfl #[.agg #[.slice aa aI.length ab],.string ac] rfl bJ ?_;(with_reducible refine (DJ.calls _ _ aI ac aq _ qp ae.out ba.out).mono ?_);rintro e bh ⟨rfl,hb⟩;refine ⟨_,rfl,?_⟩;obtain ⟨a6,a5,HB⟩:=p_ (Kd.bG (aN a6) hb) <| qA (au a5) ay hb;(try clear hb)))
 (try simp only [fM])
 (try clear J9)
 obtain ⟨H⟩:=ar;by_cases az:aq=true
 rotate_left
 ·replace az:=Bool.eq_false_iff.mpr az;subst az;rw [if_neg iF] at H;obtain rfl:=bQ H;go_wp2
  go_ret
  exact ⟨bK,ay⟩
 subst az;rw [if_pos rfl] at H;obtain ⟨aT,bb,H⟩:=bd_ H;have av:=m_ H;clear H;have QK:=bZ a5.out;go_upto_if 32 with (first|((with_reducible refine cu 17 ?_);refine cO (some 35) rfl rfl func17 aC rfl #[.agg #[.slice aa aI.length ab],.string a1] rfl bJ ?_;(with_reducible refine (uy.calls _ _ aI a1 aT _ qp ae.out bb.out).mono ?_);rintro e bi ⟨rfl,hb⟩;refine ⟨_,rfl,?_⟩;obtain ⟨a6,a5,HB⟩:=p_ (Kd.bG (aN a6) hb) <| qA (au a5) ay hb;(try clear hb)))
 (try simp only [fM])
 (try clear QK)
 obtain ⟨H⟩:=av;revert H;refine fB (fun a8 H=>?_) fun a8 H=>?_
 ·try simp only [aV,aZ,a8]
  obtain rfl:=bQ H;go_wp2
  go_ret
  exact ⟨bK,ay⟩
 try simp only [aV,aZ,a8]
 obtain ⟨ag,bc,H⟩:=bd_ H;have aw:=m_ H;clear H;have QL:=bZ a5.out;go_upto_if 37 with (first|((with_reducible refine cu 18 ?_);refine cO (some 40) rfl rfl func18 aC rfl #[.agg #[.slice aa aI.length ab],.string ac] rfl bJ ?_;(with_reducible refine (uz.calls k _ _ aI ac ag _ (jg.below HD.out ay) qp ae.out bc.out).mono ?_);rintro e bj ⟨v208,rfl,ho0,hb⟩;refine ⟨_,rfl,?_⟩;obtain ⟨a6,ax,a5,HB⟩:=p_ (Kd.jP (aN a6) (Kd.iY ho0) hb) <| p_ (Kd.dR (Kd.jQ ho0 (Kd.jl (aN a6))) (bU ay)) <| qA (au a5) ay hb;(try clear hb);(try clear ho0);obtain ⟨bd,be,b4⟩:=Kd.dN ax.out;subst b4))
 (try simp only [fM])
 (try clear QL)
 obtain ⟨H⟩:=aw;revert H;refine eU (fun al H=>?_) fun al H=>?_
 ·have a9:=nJ al;have bD:decide (6≤ag.length)=true:=nJ (by omega);clear al;try simp only [aV,aZ,a9]
  obtain rfl:=bQ H;go_wp2
  go_ret
  exact ⟨bK,ay⟩
 have a9:=wQ al;have bD:decide (6≤ag.length)=false:=wQ (by omega);clear al;try simp only [aV,aZ,a9]
 obtain rfl:=bQ H;go_wp2
 go_ret
 exact ⟨bK,ay⟩

def Fv.f (k:Nat) (ai:Int) (aH:Int) (a9:Int) (aO:Int) (a5:List (aF)) (a7:Int) (a6:ByteArray) (al:ByteArray) (am:Int) (an:Int) (ae:ByteArray) (af:ByteArray) (ag:Bool) (aK:ByteArray):Option ((List (aF)) × Int × ByteArray × Int × Bool × List ByteArray):=(Bh.f k a5 a6).bind fun a8=>(if a8=0 then (if (wrap64 ((a5.length:Int)+1)) ≥ a9 then ((zB.f a5 a6 (a7 == 2) (⟨#[]⟩:ByteArray)).bind fun aa=>(some (aa,8,(⟨#[]⟩:ByteArray),0,false,([]:List ByteArray)))) else ((zB.f a5 a6 (a7 == 2) (⟨#[]⟩:ByteArray)).bind fun ab=>(some (ab,a8,(⟨#[]⟩:ByteArray),0,false,([]:List ByteArray))))) else ((zB.f a5 a6 (a7 == 2) (⟨#[]⟩:ByteArray)).bind fun ac=>(some (ac,a8,(⟨#[]⟩:ByteArray),0,false,([]:List ByteArray)))))
theorem Fv.calls (k:Nat) (az:Int) (b0:Int) (ax:Int) (b1:Int) (dX:Option Addr) (dW:Nat) (bP:List (aF)) (aO:Int) (af:ByteArray) (b2:ByteArray) (b3:Int) (b4:Int) (ap:ByteArray) (aq:ByteArray) (ar:Bool) (aT:ByteArray) (r1:List (aF)) (r2:Int) (r3:ByteArray) (r4:Int) (r5:Bool) (r6:List ByteArray) (w:World) (kN:jg w) (b5:Kd.C aS w dX bP.length bP) (b6:bP.length≤dW) (h:Fv.f k az b0 ax b1 bP aO af b2 b3 b4 ap aq ar aT=some (r1,r2,r3,r4,r5,r6)) :
  Calls Tryz.prog 115 #[.agg #[ah az,ah b0,ah ax,ah b1,.slice dX bP.length dW,ah aO,.string af,.string b2,ah b3,ah b4,.string ap,.string aq,.bool ar,.string aT]] w fun e w'=>∃ fC nG:Value,e=.returned (.tuple #[.agg #[fC],.agg #[ah r2,.string r3,ah r4,.bool r5,nG]])∧Kd.R aS 43 w' w.heap.size (fun _=>True) fC r1∧Kd.R Kd.string 9 w' w.heap.size (fun _=>True) nG r6∧Below w.heap.size w w':=by
 have Fe:=underlying90;have nT:=underlying28;have wE:=underlying49;have tX:=underlying43;have Kz:=m_ b5;have al:=m_ b6;clear b5 b6;have HD:=m_ kN;clear kN;have HB:=m_ (Below.refl w.heap.size w);unfold Fv.f at h
 have H:=h;clear h;obtain ⟨bD,A2,H⟩:=bd_ H;revert H;refine eU (fun c3 H=>?_) fun c3 H=>?_;rotate_left
 ·have bm:=fZ c3;have fG:=f_ c3;obtain ⟨bb,cd,H⟩:=bd_ H;simp only [gV] at H
  obtain ⟨rfl,rfl,rfl,rfl,rfl,rfl⟩:=H;go_enter func115,ntmps115
  go_wp2_with (first|((with_reducible refine dJ 1 ?_);(try (refine r_ (by rfl) ?_;dsimp only));refine dO 1 (cs:=#[ah az,ah b0,ah ax,ah b1,.slice dX bP.length dW,ah aO,.string af,.string b2,ah b3,ah b4,.string ap,.string aq,.bool ar,.string aT]) 90 ?_;intro bc hg cj hbox hb;obtain ⟨HB,a5,bd,be⟩:=jR ay hb hbox hg;clear hb hbox hg)|((with_reducible refine dJ 2 ?_);(try (refine r_ (by rfl) ?_;dsimp only));refine dO 2 (cs:=#[.slice none 0 0]) 28 ?_;intro av hg ck hbox hb;obtain ⟨a5,HB,a6,fA,dL,a8,a9⟩:=oO (au a5) ay hb hbox hg;clear hb hbox hg)|((with_reducible refine dJ 3 ?_);(try (refine r_ (by rfl) ?_;dsimp only));refine dO 3 (cs:=#[ah 0,.string (⟨#[]⟩:ByteArray),ah 0,.bool false,.slice none 0 0]) 49 ?_;intro aw hg cl hbox hb;obtain ⟨a5,a6,HB,a7,bh,bi,aa,ab,ac,ae⟩:=rP (au a5) (au a6) ay hb hbox hg;clear hb hbox hg;obtain ⟨ai,aH,ag,aK⟩:=iD a8 a9 aa ab;obtain ⟨Oz,OA,OG,OH,OI,OJ,OL,OM,OO,OQ,OB,OC,OD,OE⟩:=iG a5.out;obtain ⟨OT,OU,OZ,O1,O4,O5,O6,O7,O8,O9,OV,OW,OX,OY⟩:=jI a5.out)|((with_reducible refine cu 24 ?_);refine cO (some 10) rfl rfl func24 aC rfl #[.agg #[.slice dX bP.length dW],.string af] rfl bJ ?_;(with_reducible refine (Bh.calls k _ _ bP af bD _ (jg.below HD.out ay) vK al.out A2.out).mono ?_);rintro e cm ⟨rfl,hb⟩;refine ⟨_,rfl,?_⟩;obtain ⟨a5,a6,a7,HB⟩:=mP (au a5) (au a6) (au a7) ay hb;(try clear hb);obtain ⟨TL,TM,TS,TT,TU,TV,TW,TY,T_,Ua,TN,TP,TQ,TR⟩:=iG a5.out;obtain ⟨UH,UJ,UO,UQ,UR,UU,UW,UY,UZ,U0,UK,UL,UM,UN⟩:=jI a5.out)|((with_reducible refine cu 21 ?_);refine cO (some 34) rfl rfl func21 aC rfl #[.agg #[.slice dX bP.length dW],.agg #[.string af,.bool (aO == 2),.string (⟨#[]⟩:ByteArray)]] rfl bJ ?_;(with_reducible refine (zB.calls _ _ bP af (aO == 2) (⟨#[]⟩:ByteArray) bb _ vK al.out cd.out).mono ?_);rintro e cn ⟨aCP,rfl,ho0,hb⟩;refine ⟨_,rfl,?_⟩;obtain ⟨b7,a5,a6,a7,HB⟩:=p_ (Kd.dR ho0 (bU ay)) <| mP (au a5) (au a6) (au a7) ay hb;(try clear hb);(try clear ho0);obtain ⟨bo,bp,bq⟩:=Kd.dN b7.out;subst bq;obtain ⟨am,an⟩:=gy ac ae;have apG:=bZ a6.out;have ce:=jc a7.out))
  refine bodyPost_ret (jq rfl _ _ av aw 28 49 #[.slice bo bb.length bp] #[ah bD,.string (⟨#[]⟩:ByteArray),ah 0,.bool false,.slice none 0 0] (0,0) (0,0) _ _ rfl bf underlying28 rfl aC rfl bf underlying49 rfl aC) rfl ?_;exact ⟨_,_,bK,(by (with_reducible repeat (first|apply Kd.bW|apply Kd.bY|apply Kd.bH));exact Kd.bF (aJ (aJ (aJ (aJ (aJ (aJ (Kd.bV (Kd.bV b7.out a6.out (by decide)) a7.out (by decide)) (fun _ hk=>hk.1.2))))))) (fun _ hk=>trivial)),lH,ay⟩
 have bm:=fU c3;have fG:=fV c3;clear c3;have bz:=m_ H;clear H;go_enter func115,ntmps115
 go_upto_if 23 with (first|((with_reducible refine dJ 1 ?_);(try (refine r_ (by rfl) ?_;dsimp only));refine dO 1 (cs:=#[ah az,ah b0,ah ax,ah b1,.slice dX bP.length dW,ah aO,.string af,.string b2,ah b3,ah b4,.string ap,.string aq,.bool ar,.string aT]) 90 ?_;intro bc hg w5 hbox hb;obtain ⟨HB,a5,bd,be⟩:=jR ay hb hbox hg;clear hb hbox hg)|((with_reducible refine dJ 2 ?_);(try (refine r_ (by rfl) ?_;dsimp only));refine dO 2 (cs:=#[.slice none 0 0]) 28 ?_;intro av hg w6 hbox hb;obtain ⟨a5,HB,a6,fA,dL,a8,a9⟩:=oO (au a5) ay hb hbox hg;clear hb hbox hg)|((with_reducible refine dJ 3 ?_);(try (refine r_ (by rfl) ?_;dsimp only));refine dO 3 (cs:=#[ah 0,.string (⟨#[]⟩:ByteArray),ah 0,.bool false,.slice none 0 0]) 49 ?_;intro aw hg w7 hbox hb;obtain ⟨a5,a6,HB,a7,bh,bi,aa,ab,ac,ae⟩:=rP (au a5) (au a6) ay hb hbox hg;clear hb hbox hg;obtain ⟨ai,aH,ag,aK⟩:=iD a8 a9 aa ab;obtain ⟨agY,agZ,ag4,ag5,ag6,ag7,ag8,ag9,ag_,ag',ag0,ag1,ag2,ag3⟩:=iG a5.out;obtain ⟨ajt,aju,ajz,ajA,ajB,ajC,ajD,ajE,ajF,ajG,ajv,ajw,ajx,ajy⟩:=jI a5.out)|((with_reducible refine cu 24 ?_);refine cO (some 10) rfl rfl func24 aC rfl #[.agg #[.slice dX bP.length dW],.string af] rfl bJ ?_;(with_reducible refine (Bh.calls k _ _ bP af bD _ (jg.below HD.out ay) vK al.out A2.out).mono ?_);rintro e co ⟨rfl,hb⟩;refine ⟨_,rfl,?_⟩;obtain ⟨a5,a6,a7,HB⟩:=mP (au a5) (au a6) (au a7) ay hb;(try clear hb);obtain ⟨Hy,Hz,H9,H_,Ia,Ib,Ic,Ie,Ig,Ih,HY,H6,H7,H8⟩:=iG a5.out;obtain ⟨IG,II,IU,IV,IW,IX,IY,IZ,I4,I5,IJ,IK,IL,IQ⟩:=jI a5.out))
 (try simp only [fM])
 (try clear ai ag aH aK)
 (try clear agY agZ ag0 ag1 ag2 ag3 ag4 ag5 ag6 ag7 ag8 ag9 ag_ ag')
 (try clear Hy Hz HY H6 H7 H8 H9 H_ Ia Ib Ic Ie Ig Ih)
 (try clear ajt aju ajv ajw ajx ajy ajz ajA ajB ajC ajD ajE ajF ajG)
 (try clear IG II IJ IK IL IQ IU IV IW IX IY IZ I4 I5)
 obtain ⟨H⟩:=bz;revert H;refine fB (fun ao H=>?_) fun ao H=>?_
 ·try simp only [aV,aZ,ao]
  obtain ⟨bj,cf,H⟩:=bd_ H;simp only [gV] at H
  obtain ⟨rfl,rfl,rfl,rfl,rfl,rfl⟩:=H;obtain ⟨ca,cc,ag,aK⟩:=iD a8 a9 aa ab;obtain ⟨Zu,Zv,ZA,ZB,ZC,ZE,ZF,ZG,ZH,ZI,Zw,Zx,Zy,Zz⟩:=iG a5.out;obtain ⟨Z9,Z_,aaf,aag,aah,aai,aaj,aak,aal,aam,Z',aac,aad,aae⟩:=jI a5.out;go_wp2_with (first|((with_reducible refine cu 21 ?_);refine cO (some 34) rfl rfl func21 aC rfl #[.agg #[.slice dX bP.length dW],.agg #[.string af,.bool (aO == 2),.string (⟨#[]⟩:ByteArray)]] rfl bJ ?_;(with_reducible refine (zB.calls _ _ bP af (aO == 2) (⟨#[]⟩:ByteArray) bj _ vK al.out cf.out).mono ?_);rintro e cp ⟨aCO,rfl,ho0,hb⟩;refine ⟨_,rfl,?_⟩;obtain ⟨b8,a5,a6,a7,HB⟩:=p_ (Kd.dR ho0 (bU ay)) <| mP (au a5) (au a6) (au a7) ay hb;(try clear hb);(try clear ho0);obtain ⟨br,bs,bu⟩:=Kd.dN b8.out;subst bu;obtain ⟨am,an⟩:=gy ac ae;have QJ:=bZ a6.out;have cg:=jc a7.out))
  refine bodyPost_ret (jq rfl _ _ av aw 28 49 #[.slice br bj.length bs] #[ah 8,.string (⟨#[]⟩:ByteArray),ah 0,.bool false,.slice none 0 0] (0,0) (0,0) _ _ rfl bf underlying28 rfl aC rfl bf underlying49 rfl aC) rfl ?_;exact ⟨_,_,bK,(by (with_reducible repeat (first|apply Kd.bW|apply Kd.bY|apply Kd.bH));exact Kd.bF (aJ (aJ (aJ (aJ (aJ (aJ (Kd.bV (Kd.bV b8.out a6.out (by decide)) a7.out (by decide)) (fun _ hk=>hk.1.2))))))) (fun _ hk=>trivial)),lH,ay⟩
 try simp only [aV,aZ,ao]
 obtain ⟨bl,ch,H⟩:=bd_ H;simp only [gV] at H
 obtain ⟨rfl,rfl,rfl,rfl,rfl,rfl⟩:=H;obtain ⟨ai,aH,ag,aK⟩:=iD a8 a9 aa ab;obtain ⟨Ii,Ij,Iq,Ir,Iu,Iw,Iy,Iz,IB,IC,Ik,Il,Io,Ip⟩:=iG a5.out;obtain ⟨I7,I8,Jc,Jd,Je,Jf,Jg,Jh,Ji,Jj,I9,I_,Ja,Jb⟩:=jI a5.out;go_wp2_with (first|((with_reducible refine cu 21 ?_);refine cO (some 34) rfl rfl func21 aC rfl #[.agg #[.slice dX bP.length dW],.agg #[.string af,.bool (aO == 2),.string (⟨#[]⟩:ByteArray)]] rfl bJ ?_;(with_reducible refine (zB.calls _ _ bP af (aO == 2) (⟨#[]⟩:ByteArray) bl _ vK al.out ch.out).mono ?_);rintro e cq ⟨v218,rfl,ho0,hb⟩;refine ⟨_,rfl,?_⟩;obtain ⟨b9,a5,a6,a7,HB⟩:=p_ (Kd.dR ho0 (bU ay)) <| mP (au a5) (au a6) (au a7) ay hb;(try clear hb);(try clear ho0);obtain ⟨bv,bw,bx⟩:=Kd.dN b9.out;subst bx;obtain ⟨am,an⟩:=gy ac ae;have QM:=bZ a6.out;have ci:=jc a7.out))
 refine bodyPost_ret (jq rfl _ _ av aw 28 49 #[.slice bv bl.length bw] #[ah bD,.string (⟨#[]⟩:ByteArray),ah 0,.bool false,.slice none 0 0] (0,0) (0,0) _ _ rfl bf underlying28 rfl aC rfl bf underlying49 rfl aC) rfl ?_;exact ⟨_,_,bK,(by (with_reducible repeat (first|apply Kd.bW|apply Kd.bY|apply Kd.bH));exact Kd.bF (aJ (aJ (aJ (aJ (aJ (aJ (Kd.bV (Kd.bV b9.out a6.out (by decide)) a7.out (by decide)) (fun _ hk=>hk.1.2))))))) (fun _ hk=>trivial)),lH,ay⟩

def wX.j0:Nat→Int→Bool→Int→Int→Int→Int→List (aF)→Int→ByteArray→ByteArray→Int→Int→ByteArray→ByteArray→Bool→ByteArray→Option ((List (aF)) × Int × ByteArray × Int × Bool × List ByteArray)
 | 0,_,_,_,_,_,_,_,_,_,_,_,_,_,_,_,_=>none
 | k+1,x4,x5,a9,aa,ab,ac,a6,a7,a5,ae,af,ag,aK,ai,a8,aH=>if x5=true then ((u_.f a6 a5).bind fun aO=>(some (aO,5,(⟨#[]⟩:ByteArray),0,false,([]:List ByteArray)))) else (if a7=3 then ((u_.f a6 a5).bind fun al=>(some (al,x4,(⟨#[]⟩:ByteArray),0,false,([]:List ByteArray)))) else (if a5.toList=([47]:List UInt8) then ((u_.f a6 a5).bind fun am=>(some (am,9,(⟨#[]⟩:ByteArray),0,false,([]:List ByteArray)))) else (if a8=true then ((uz.f k a6 a5).bind fun an=>(if (an.length:Int) > 0 then ((u_.f a6 a5).bind fun ao=>(some (ao,10,(⟨#[]⟩:ByteArray),0,false,([]:List ByteArray)))) else ((u_.f a6 a5).bind fun ap=>(some (ap,x4,(⟨#[]⟩:ByteArray),0,false,([]:List ByteArray)))))) else ((u_.f a6 a5).bind fun aq=>(some (aq,4,(⟨#[]⟩:ByteArray),0,false,([]:List ByteArray)))))))
def wX.f (k:Nat) (aa:Int) (ab:Int) (ac:Int) (ae:Int) (af:List (aF)) (a9:Int) (ag:ByteArray) (aK:ByteArray) (ai:Int) (aH:Int) (a6:ByteArray) (a7:ByteArray) (a5:Bool) (a8:ByteArray):Option ((List (aF)) × Int × ByteArray × Int × Bool × List ByteArray):=if a9=3 then (wX.j0 k 0 a5 aa ab ac ae af a9 ag aK ai aH a6 a7 a5 a8) else (wX.j0 k 0 false aa ab ac ae af a9 ag aK ai aH a6 a7 a5 a8)
theorem wX.calls (k:Nat) (b1:Int) (b2:Int) (b3:Int) (b4:Int) (dX:Option Addr) (dW:Nat) (bP:List (aF)) (az:Int) (aH:ByteArray) (b5:ByteArray) (b6:Int) (b7:Int) (ar:ByteArray) (aT:ByteArray) (am:Bool) (av:ByteArray) (r1:List (aF)) (r2:Int) (r3:ByteArray) (r4:Int) (r5:Bool) (r6:List ByteArray) (w:World) (kN:jg w) (bb:Kd.C aS w dX bP.length bP) (bc:bP.length≤dW) (h:wX.f k b1 b2 b3 b4 bP az aH b5 b6 b7 ar aT am av=some (r1,r2,r3,r4,r5,r6)) :
  Calls Tryz.prog 116 #[.agg #[ah b1,ah b2,ah b3,ah b4,.slice dX bP.length dW,ah az,.string aH,.string b5,ah b6,ah b7,.string ar,.string aT,.bool am,.string av]] w fun e w'=>∃ fC nG:Value,e=.returned (.tuple #[.agg #[fC],.agg #[ah r2,.string r3,ah r4,.bool r5,nG]])∧Kd.R aS 43 w' w.heap.size (fun _=>True) fC r1∧Kd.R Kd.string 9 w' w.heap.size (fun _=>True) nG r6∧Below w.heap.size w w':=by
 have Fe:=underlying90;have nT:=underlying28;have wE:=underlying49;have Kz:=m_ bb;have an:=m_ bc;clear bb bc;have HD:=m_ kN;clear kN;have HB:=m_ (Below.refl w.heap.size w);unfold wX.f at h
 have H:=h;clear h;have cg:=m_ H;clear H;go_enter func116,ntmps116
 go_upto_region 2 with (first|((with_reducible refine dJ 1 ?_);refine dO 1 (cs:=#[ah b1,ah b2,ah b3,ah b4,.slice dX bP.length dW,ah az,.string aH,.string b5,ah b6,ah b7,.string ar,.string aT,.bool am,.string av]) 90 ?_;intro fG hg w3 hbox hb;obtain ⟨HB,a5,d1,d2⟩:=jR ay hb hbox hg;clear hb hbox hg)|((with_reducible refine dJ 2 ?_);refine dO 2 (cs:=#[.slice none 0 0]) 28 ?_;intro ao hg w4 hbox hb;obtain ⟨a5,HB,a6,d3,d4,ac,ae⟩:=oO (au a5) ay hb hbox hg;clear hb hbox hg)|((with_reducible refine dJ 3 ?_);refine dO 3 (cs:=#[ah 0,.string (⟨#[]⟩:ByteArray),ah 0,.bool false,.slice none 0 0]) 49 ?_;intro ap hg w5 hbox hb;obtain ⟨a5,a6,HB,a7,d5,d6,af,ag,aK,ai⟩:=rP (au a5) (au a6) ay hb hbox hg;clear hb hbox hg))
 (try simp only [fM])
 go_cut [5] (fun v5 wc=>∃ (kq:Nat) (b9:Bool),v5=.bool b9∧aA (wX.j0 kq 0 b9 b1 b2 b3 b4 bP az aH b5 b6 b7 ar aT am av=some (r1,r2,r3,r4,r5,r6))∧aA (kq≤k)∧aA (wc.heap[fG]?=some (.cells #[ah b1,ah b2,ah b3,ah b4,(.slice dX bP.length dW),ah az,.string aH,.string b5,ah b6,ah b7,.string ar,.string aT,.bool am,.string av] 90))∧aA (wc.heap[ao]?=some (.cells #[(.slice none 0 0)] 28))∧aA (wc.heap[ap]?=some (.cells #[ah 0,.string (⟨#[]⟩:ByteArray),ah 0,.bool false,(.slice none 0 0)] 49))∧aA (Below w.heap.size w wc))
 case first =>
  obtain ⟨H⟩:=cg;revert H;refine eU (fun c6 H=>?_) fun c6 H=>?_
  ·have b0:=fU c6;have bo:=fV c6;clear c6;try simp only [aV,aZ,b0]
   have H':=m_ H;clear H;obtain ⟨a8,a9,aa,ab⟩:=iD ac ae af ag;obtain ⟨Ur,Us,Uy,Uz,UA,UC,UD,UE,UF,UG,Ut,Uu,Uw,Ux⟩:=iG a5.out;obtain ⟨Vf,Vg,Vm,Vo,Vp,Vq,Vr,Vs,Vt,Vu,Vh,Vj,Vk,Vl⟩:=jI a5.out;go_wp2
   go_meet
   case rel=>exact ⟨_,(am),bC,H',⟨lM⟩,⟨(au a5)⟩,⟨(au a6)⟩,⟨(au a7)⟩,⟨ay⟩⟩
  have b0:=fZ c6;have bo:=f_ c6;try simp only [aV,aZ,b0]
  have H':=m_ H;clear H;obtain ⟨a8,a9,aa,ab⟩:=iD ac ae af ag;obtain ⟨Hy,Hz,H9,H_,Ia,Ib,Ic,Ie,Ig,Ih,HY,H6,H7,H8⟩:=iG a5.out;obtain ⟨IG,II,IU,IV,IW,IX,IY,IZ,I4,I5,IJ,IK,IL,IQ⟩:=jI a5.out;go_wp2
  go_meet
  case rel=>exact ⟨_,(false),bC,H',⟨lM⟩,⟨(au a5)⟩,⟨(au a6)⟩,⟨(au a7)⟩,⟨ay⟩⟩
 case rest =>
 clear cg;obtain ⟨kq,b9,rfl,HA,uj,a5,a6,a7,HB⟩:=hcut;cases kq with
 | zero=>exact absurd HA.out (by simp [wX.j0])
 | succ Bv =>
 obtain ⟨H⟩:=HA;simp only [wX.j0] at H
 by_cases ce:b9=true
 ·subst ce;rw [if_pos rfl] at H;obtain ⟨bp,d7,H⟩:=bd_ H;simp only [gV] at H
  obtain ⟨rfl,rfl,rfl,rfl,rfl,rfl⟩:=H;obtain ⟨a8,a9,aa,ab⟩:=iD ac ae af ag;obtain ⟨Zu,Zv,ZA,ZB,ZC,ZE,ZF,ZG,ZH,ZI,Zw,Zx,Zy,Zz⟩:=iG a5.out;obtain ⟨Z9,Z_,aaf,aag,aah,aai,aaj,aak,aal,aam,Z',aac,aad,aae⟩:=jI a5.out;go_wp2_with (first|((with_reducible refine cu 64 ?_);refine cO (some 44) rfl rfl func64 aC rfl #[.agg #[.slice dX bP.length dW],.string aH] rfl bJ ?_;(with_reducible refine (u_.calls _ _ bP aH bp _ vK an.out d7.out).mono ?_);rintro e dq ⟨v227,rfl,ho0,hb⟩;refine ⟨_,rfl,?_⟩;obtain ⟨bd,a5,a6,a7,HB⟩:=p_ (Kd.dR ho0 (bU ay)) <| mP (au a5) (au a6) (au a7) ay hb;(try clear hb);(try clear ho0);obtain ⟨ch,ci,cj⟩:=Kd.dN bd.out;subst cj;obtain ⟨aO,al⟩:=gy aK ai;have QJ:=bZ a6.out;have d8:=jc a7.out))
  refine bodyPost_ret (jq rfl _ _ ao ap 28 49 #[.slice ch bp.length ci] #[ah 5,.string (⟨#[]⟩:ByteArray),ah 0,.bool false,.slice none 0 0] (0,0) (0,0) _ _ rfl bf underlying28 rfl aC rfl bf underlying49 rfl aC) rfl ?_;exact ⟨_,_,bK,(by (with_reducible repeat (first|apply Kd.bW|apply Kd.bY|apply Kd.bH));exact Kd.bF (aJ (aJ (aJ (aJ (aJ (aJ (Kd.bV (Kd.bV bd.out a6.out (by decide)) a7.out (by decide)) (fun _ hk=>hk.1.2))))))) (fun _ hk=>trivial)),lH,ay⟩
 replace ce:=Bool.eq_false_iff.mpr ce;subst ce;rw [if_neg iF] at H;have bq:=m_ H;clear H;obtain ⟨a8,a9,aa,ab⟩:=iD ac ae af ag;obtain ⟨Ii,Ij,Iq,Ir,Iu,Iw,Iy,Iz,IB,IC,Ik,Il,Io,Ip⟩:=iG a5.out;obtain ⟨I7,I8,Jc,Jd,Je,Jf,Jg,Jh,Ji,Jj,I9,I_,Ja,Jb⟩:=jI a5.out;go_upto_if 15 with (fail)
 (try clear a8 aa a9 ab)
 (try clear Ii Ij Ik Il Io Ip Iq Ir Iu Iw Iy Iz IB IC)
 (try clear I7 I8 I9 I_ Ja Jb Jc Jd Je Jf Jg Jh Ji Jj)
 obtain ⟨H⟩:=bq;revert H;refine eU (fun bj H=>?_) fun bj H=>?_
 ·have aw:=fU bj;have br:=fV bj;clear bj;try simp only [aV,aZ,aw]
  obtain ⟨bs,d9,H⟩:=bd_ H;simp only [gV] at H
  obtain ⟨rfl,rfl,rfl,rfl,rfl,rfl⟩:=H;obtain ⟨arV,arW,ar1,ar2,ar4,ar5,ar6,ar7,ar8,ar9,arX,arY,arZ,ar0⟩:=iG a5.out;obtain ⟨axS,axT,axY,axZ,ax0,ax1,ax2,ax3,ax4,ax5,axU,axV,axW,axX⟩:=jI a5.out;go_wp2_with (first|((with_reducible refine cu 64 ?_);refine cO (some 44) rfl rfl func64 aC rfl #[.agg #[.slice dX bP.length dW],.string aH] rfl bJ ?_;(with_reducible refine (u_.calls _ _ bP aH bs _ vK an.out d9.out).mono ?_);rintro e dr ⟨aCQ,rfl,ho0,hb⟩;refine ⟨_,rfl,?_⟩;obtain ⟨be,a5,a6,a7,HB⟩:=p_ (Kd.dR ho0 (bU ay)) <| mP (au a5) (au a6) (au a7) ay hb;(try clear hb);(try clear ho0);obtain ⟨ck,cl,cm⟩:=Kd.dN be.out;subst cm;obtain ⟨aO,al⟩:=gy aK ai;have aED:=bZ a6.out;have da:=jc a7.out))
  refine bodyPost_ret (jq rfl _ _ ao ap 28 49 #[.slice ck bs.length cl] #[ah 0,.string (⟨#[]⟩:ByteArray),ah 0,.bool false,.slice none 0 0] (0,0) (0,0) _ _ rfl bf underlying28 rfl aC rfl bf underlying49 rfl aC) rfl ?_;exact ⟨_,_,bK,(by (with_reducible repeat (first|apply Kd.bW|apply Kd.bY|apply Kd.bH));exact Kd.bF (aJ (aJ (aJ (aJ (aJ (aJ (Kd.bV (Kd.bV be.out a6.out (by decide)) a7.out (by decide)) (fun _ hk=>hk.1.2))))))) (fun _ hk=>trivial)),lH,ay⟩
 have aw:=fZ bj;have br:=f_ bj;try simp only [aV,aZ,aw]
 have bu:=m_ H;clear H;obtain ⟨TL,TM,TS,TT,TU,TV,TW,TY,T_,Ua,TN,TP,TQ,TR⟩:=iG a5.out;obtain ⟨UH,UJ,UO,UQ,UR,UU,UW,UY,UZ,U0,UK,UL,UM,UN⟩:=jI a5.out;go_upto_if 20 with (fail)
 (try clear a8 aa a9 ab)
 (try clear TL TM TN TP TQ TR TS TT TU TV TW TY T_ Ua)
 (try clear UH UJ UK UL UM UN UO UQ UR UU UW UY UZ U0)
 obtain ⟨H⟩:=bu;revert H;refine eU (fun bl H=>?_) fun bl H=>?_
 ·have ax:=fU bl;have bv:=fV bl;clear bl;try simp only [aV,aZ,ax]
  obtain ⟨bw,db,H⟩:=bd_ H;simp only [gV] at H
  obtain ⟨rfl,rfl,rfl,rfl,rfl,rfl⟩:=H;obtain ⟨asq,asr,asy,asz,asA,asB,asC,asD,asE,asF,asu,asv,asw,asx⟩:=iG a5.out;obtain ⟨ayi,ayj,ayo,ayp,ayq,ayr,ays,ayt,ayu,ayv,ayk,ayl,aym,ayn⟩:=jI a5.out;go_wp2_with (first|((with_reducible refine cu 64 ?_);refine cO (some 44) rfl rfl func64 aC rfl #[.agg #[.slice dX bP.length dW],.string aH] rfl bJ ?_;(with_reducible refine (u_.calls _ _ bP aH bw _ vK an.out db.out).mono ?_);rintro e dt ⟨v233,rfl,ho0,hb⟩;refine ⟨_,rfl,?_⟩;obtain ⟨fA,a5,a6,a7,HB⟩:=p_ (Kd.dR ho0 (bU ay)) <| mP (au a5) (au a6) (au a7) ay hb;(try clear hb);(try clear ho0);obtain ⟨cn,co,cp⟩:=Kd.dN fA.out;subst cp;obtain ⟨aO,al⟩:=gy aK ai;have aeb:=bZ a6.out;have dd:=jc a7.out))
  refine bodyPost_ret (jq rfl _ _ ao ap 28 49 #[.slice cn bw.length co] #[ah 9,.string (⟨#[]⟩:ByteArray),ah 0,.bool false,.slice none 0 0] (0,0) (0,0) _ _ rfl bf underlying28 rfl aC rfl bf underlying49 rfl aC) rfl ?_;exact ⟨_,_,bK,(by (with_reducible repeat (first|apply Kd.bW|apply Kd.bY|apply Kd.bH));exact Kd.bF (aJ (aJ (aJ (aJ (aJ (aJ (Kd.bV (Kd.bV fA.out a6.out (by decide)) a7.out (by decide)) (fun _ hk=>hk.1.2))))))) (fun _ hk=>trivial)),lH,ay⟩
 have ax:=fZ bl;have bv:=f_ bl;try simp only [aV,aZ,ax]
 have bx:=m_ H;clear H;obtain ⟨aiy,aiz,aiE,aiF,aiG,aiH,aiI,aiJ,aiK,aiL,aiA,aiB,aiC,aiD⟩:=iG a5.out;obtain ⟨ak4,ak5,ak_,ak',ala,alb,alc,ald,ale,alf,ak6,ak7,ak8,ak9⟩:=jI a5.out;go_upto_if 25 with (fail)
 (try clear a8 aa a9 ab)
 (try clear aiy aiz aiA aiB aiC aiD aiE aiF aiG aiH aiI aiJ aiK aiL)
 (try clear ak4 ak5 ak6 ak7 ak8 ak9 ak_ ak' ala alb alc ald ale alf)
 obtain ⟨H⟩:=bx;by_cases cf:am=true
 rotate_left
 ·replace cf:=Bool.eq_false_iff.mpr cf;subst cf;rw [if_neg iF] at H;obtain ⟨bz,de,H⟩:=bd_ H;simp only [gV] at H
  obtain ⟨rfl,rfl,rfl,rfl,rfl,rfl⟩:=H;obtain ⟨aus,aut,auz,auA,auB,auC,auD,auE,auF,auG,auu,auv,auw,auy⟩:=iG a5.out;obtain ⟨az4,az5,az_,az',aAa,aAb,aAc,aAd,aAe,aAf,az6,az7,az8,az9⟩:=jI a5.out;go_wp2_with (first|((with_reducible refine cu 64 ?_);refine cO (some 44) rfl rfl func64 aC rfl #[.agg #[.slice dX bP.length dW],.string aH] rfl bJ ?_;(with_reducible refine (u_.calls _ _ bP aH bz _ vK an.out de.out).mono ?_);rintro e du ⟨aCT,rfl,ho0,hb⟩;refine ⟨_,rfl,?_⟩;obtain ⟨dL,a5,a6,a7,HB⟩:=p_ (Kd.dR ho0 (bU ay)) <| mP (au a5) (au a6) (au a7) ay hb;(try clear hb);(try clear ho0);obtain ⟨cq,cr,ct⟩:=Kd.dN dL.out;subst ct;obtain ⟨aO,al⟩:=gy aK ai;have aEZ:=bZ a6.out;have df:=jc a7.out))
  refine bodyPost_ret (jq rfl _ _ ao ap 28 49 #[.slice cq bz.length cr] #[ah 4,.string (⟨#[]⟩:ByteArray),ah 0,.bool false,.slice none 0 0] (0,0) (0,0) _ _ rfl bf underlying28 rfl aC rfl bf underlying49 rfl aC) rfl ?_;exact ⟨_,_,bK,(by (with_reducible repeat (first|apply Kd.bW|apply Kd.bY|apply Kd.bH));exact Kd.bF (aJ (aJ (aJ (aJ (aJ (aJ (Kd.bV (Kd.bV dL.out a6.out (by decide)) a7.out (by decide)) (fun _ hk=>hk.1.2))))))) (fun _ hk=>trivial)),lH,ay⟩
 subst cf;rw [if_pos rfl] at H;obtain ⟨ba,dg,H⟩:=bd_ H;have ca:=m_ H;clear H;obtain ⟨aiM,aiN,aiS,aiT,aiU,aiV,aiW,aiX,aiY,aiZ,aiO,aiP,aiQ,aiR⟩:=iG a5.out;obtain ⟨alg,alh,aln,alo,alp,alq,alr,als,alu,alv,ali,alj,alk,alm⟩:=jI a5.out;go_upto_if 30 with (first|((with_reducible refine cu 18 ?_);refine cO (some 36) rfl rfl func18 aC rfl #[.agg #[.slice dX bP.length dW],.string aH] rfl bJ ?_;(with_reducible refine (uz.calls Bv _ _ bP aH ba _ (jg.below HD.out ay) vK an.out dg.out).mono ?_);rintro e dv ⟨v236,rfl,ho0,hb⟩;refine ⟨_,rfl,?_⟩;obtain ⟨aq,a5,a6,a7,HB⟩:=p_ (Kd.dR ho0 (bU ay)) <| mP (au a5) (au a6) (au a7) ay hb;(try clear hb);(try clear ho0);obtain ⟨pF,di,fE⟩:=Kd.dN aq.out;subst fE))
 (try simp only [fM])
 (try clear a8 aa a9 ab)
 (try clear aiM aiN aiO aiP aiQ aiR aiS aiT aiU aiV aiW aiX aiY aiZ)
 (try clear alg alh ali alj alk alm aln alo alp alq alr als alu alv)
 obtain ⟨H⟩:=ca;revert H;refine eU (fun bm H=>?_) fun bm H=>?_
 ·have bD:=nJ bm;have b8:decide (0 < ba.length)=true:=nJ (by omega);clear bm;(first|rw [bD]|rw [b8]|(simp only [aV,aZ];rw [bD])|skip)
  obtain ⟨cc,dj,H⟩:=bd_ H;simp only [gV] at H
  obtain ⟨rfl,rfl,rfl,rfl,rfl,rfl⟩:=H;obtain ⟨ata,atb,atg,ath,ati,atj,atl,atm,atn,ato,atc,atd,ate,atf⟩:=iG a5.out;obtain ⟨ayY,ayZ,ay4,ay5,ay6,ay7,ay8,ay9,ay_,ay',ay0,ay1,ay2,ay3⟩:=jI a5.out;go_wp2_with (first|((with_reducible refine cu 64 ?_);refine cO (some 44) rfl rfl func64 aC rfl #[.agg #[.slice dX bP.length dW],.string aH] rfl bJ ?_;(with_reducible refine (u_.calls _ _ bP aH cc _ vK an.out dj.out).mono ?_);rintro e lC ⟨aCR,rfl,ho0,hb⟩;refine ⟨_,rfl,?_⟩;obtain ⟨aq,bh,a5,a6,a7,HB⟩:=p_ (Kd.bG (aN aq) hb) <| p_ (Kd.dR ho0 (bU ay)) <| mP (au a5) (au a6) (au a7) ay hb;(try clear hb);(try clear ho0);obtain ⟨cv,cw,cx⟩:=Kd.dN bh.out;subst cx;obtain ⟨aO,al⟩:=gy aK ai;have apM:=bZ a6.out;have dk:=jc a7.out))
  refine bodyPost_ret (jq rfl _ _ ao ap 28 49 #[.slice cv cc.length cw] #[ah 10,.string (⟨#[]⟩:ByteArray),ah 0,.bool false,.slice none 0 0] (0,0) (0,0) _ _ rfl bf underlying28 rfl aC rfl bf underlying49 rfl aC) rfl ?_;exact ⟨_,_,bK,(by (with_reducible repeat (first|apply Kd.bW|apply Kd.bY|apply Kd.bH));exact Kd.bF (aJ (aJ (aJ (aJ (aJ (aJ (Kd.bV (Kd.bV bh.out a6.out (by decide)) a7.out (by decide)) (fun _ hk=>hk.1.2))))))) (fun _ hk=>trivial)),lH,ay⟩
 have bD:=wQ bm;have b8:decide (0 < ba.length)=false:=wQ (by omega);clear bm;(first|rw [bD]|rw [b8]|(simp only [aV,aZ];rw [bD])|skip)
 obtain ⟨cd,dl,H⟩:=bd_ H;simp only [gV] at H
 obtain ⟨rfl,rfl,rfl,rfl,rfl,rfl⟩:=H;obtain ⟨atT,atU,atZ,at1,at6,at7,aua,aub,auc,aud,atV,atW,atX,atY⟩:=iG a5.out;obtain ⟨azC,azD,azI,azJ,azK,azL,azM,azN,azO,azP,azE,azF,azG,azH⟩:=jI a5.out;go_wp2_with (first|((with_reducible refine cu 64 ?_);refine cO (some 44) rfl rfl func64 aC rfl #[.agg #[.slice dX bP.length dW],.string aH] rfl bJ ?_;(with_reducible refine (u_.calls _ _ bP aH cd _ vK an.out dl.out).mono ?_);rintro e dx ⟨aCS,rfl,ho0,hb⟩;refine ⟨_,rfl,?_⟩;obtain ⟨aq,bi,a5,a6,a7,HB⟩:=p_ (Kd.bG (aN aq) hb) <| p_ (Kd.dR ho0 (bU ay)) <| mP (au a5) (au a6) (au a7) ay hb;(try clear hb);(try clear ho0);obtain ⟨cy,cz,d0⟩:=Kd.dN bi.out;subst d0;obtain ⟨aO,al⟩:=gy aK ai;have aEV:=bZ a6.out;have dm:=jc a7.out))
 refine bodyPost_ret (jq rfl _ _ ao ap 28 49 #[.slice cy cd.length cz] #[ah 0,.string (⟨#[]⟩:ByteArray),ah 0,.bool false,.slice none 0 0] (0,0) (0,0) _ _ rfl bf underlying28 rfl aC rfl bf underlying49 rfl aC) rfl ?_;exact ⟨_,_,bK,(by (with_reducible repeat (first|apply Kd.bW|apply Kd.bY|apply Kd.bH));exact Kd.bF (aJ (aJ (aJ (aJ (aJ (aJ (Kd.bV (Kd.bV bi.out a6.out (by decide)) a7.out (by decide)) (fun _ hk=>hk.1.2))))))) (fun _ hk=>trivial)),lH,ay⟩

def slices_Equal_string.l0:Nat→List ByteArray→List ByteArray→Int→Int→Option (Bool)
 | 0,_,_,_,_=>none
 | k+1,x0,x1,a6,a5=>if a5 < a6 then (if 0≤a5 then (if a5 < (x0.length:Int) then (if a5 < (x1.length:Int) then (if (qV ByteArray.empty x0 a5).toList=(qV ByteArray.empty x1 a5).toList then (slices_Equal_string.l0 k x0 x1 a6 (wrap64 (a5+1))) else (some false)) else (none)) else (none)) else (none)) else (some true)
def slices_Equal_string.f (k:Nat) (l0:List ByteArray) (l1:List ByteArray):Option (Bool):=if (l0.length:Int)=(l1.length:Int) then (slices_Equal_string.l0 k l0 l1 (l0.length:Int) 0) else (some false)
theorem slices_Equal_string.calls (k:Nat) (A0:Option Addr) (c0:Nat) (l0:List ByteArray) (A1:Option Addr) (c1:Nat) (l1:List ByteArray) (r:Bool) (w:World) (hr0:Kd.C Kd.string w A0 l0.length l0) (hc0:l0.length≤c0) (hr1:Kd.C Kd.string w A1 l1.length l1) (hc1:l1.length≤c1) (h:slices_Equal_string.f k l0 l1=some r) :
  Calls Tryz.prog 95 #[.slice A0 l0.length c0,.slice A1 l1.length c1] w fun e w'=>e=.returned (.bool r)∧pO w w':=by
 have HR0:=m_ hr0;have aT:=m_ hc0;clear hr0 hc0;have ao:=m_ hr1;have av:=m_ hc1;clear hr1 hc1;unfold slices_Equal_string.f at h
 have H:=h;clear h;revert H;refine eU (fun c3 H=>?_) fun c3 H=>?_;rotate_left
 ·have ae:=fZ c3;have af:=f_ c3;have ag:(l0.length == l1.length)=false:=by first|simpa using c3|(simp at c3 ⊢;omega)
  obtain rfl:=bQ H;go_enter func95,ntmps95
  go_wp2
  repeat (go_quiet (fail);try go_wp2)
  go_ret
  exact ⟨bC,kL⟩
 have ae:=fU c3;have af:=fV c3;have ag:(l0.length == l1.length)=true:=by first|simpa using c3|(simp at c3 ⊢;omega)
 clear c3;have H':=m_ H;clear H;go_enter func95,ntmps95
 go_wp2
 repeat (go_quiet (fail);try go_wp2)
 go_loopg [13] k (fun kq v13 w'=>∃ (a5:Int),v13=ah a5∧aA (slices_Equal_string.l0 kq l0 l1 (l0.length:Int) a5=some r)∧aA (kq≤k)∧pO w w')
 case atStart=>exact ⟨(0),bC,H',⟨Nat.le_refl _⟩,kL⟩
 case round =>
 clear H';try clear c1;try clear c3;try clear ae;try clear af;try clear ag
 obtain ⟨a5,rfl,HA,gG,⟨m1,rfl⟩⟩:=hrel;cases gk with
 | zero=>exact absurd HA.out (by simp [slices_Equal_string.l0])
 | succ k1 =>
 obtain ⟨H⟩:=HA;simp only [slices_Equal_string.l0] at H
 revert H;refine fB (fun aK H=>?_) fun aK H=>?_;rotate_left
 ·obtain rfl:=bQ H;go_wp2
  repeat (go_quiet (fail);try go_wp2)
  go_ret
  exact ⟨bC,kL⟩
 obtain ⟨ap,H⟩:=gI H;obtain ⟨aq,H⟩:=gI H;obtain ⟨ar,H⟩:=gI H;have al:=m_ H;clear H;have a9:0≤(a5:Int):=aX aY;have aa:a5 < (l0.length:Int):=aX aY;obtain ⟨am,ai,a7⟩:=Kd.Aa HR0.out a5 a9 aa;cases ai;replace a9:=eq_true a9;replace aa:=eq_true aa;have ab:0≤(a5:Int):=aX aY;have ac:a5 < (l1.length:Int):=aX aY;obtain ⟨an,aH,a8⟩:=Kd.Aa ao.out a5 ab ac;cases aH;replace ab:=eq_true ab;replace ac:=eq_true ac;go_upto_if 24 with (fail)
 repeat (go_quiet (fail);go_upto_if 24 with (fail))
 (try clear a7)
 (try clear a8)
 obtain ⟨H⟩:=al;revert H;refine eU (fun c9 H=>?_) fun c9 H=>?_;rotate_left
 ·have a6:=fZ c9;have aO:=f_ c9;try simp only [aV,aZ,a6]
  obtain rfl:=bQ H;go_wp2
  repeat (go_quiet (fail);try go_wp2)
  go_ret
  exact ⟨bC,kL⟩
 have a6:=fU c9;have aO:=fV c9;clear c9;try simp only [aV,aZ,a6]
 have H':=m_ H;clear H;go_wp2
 repeat (go_quiet (fail);try go_wp2)
 go_roundg k1
 case measure=>have:=gG.out;omega
 case rel=>exact ⟨(wrap64 (a5+1)),bC,H',⟨oz⟩,kL⟩

def Ce.f (k:Nat) (a0:ByteArray) (a1:ByteArray):Option (Bool):=(mY.f k a0).bind fun a6=>((mY.f k a1).bind fun a5=>(if a6.2=0 then (if a5.2=0 then (if (a6.1.length:Int) > (a5.1.length:Int) then (if 0≤(a5.1.length:Int) then (if (a5.1.length:Int)≤(a6.1.length:Int) then ((slices_Equal_string.f k (a6.1.take ((a5.1.length:Int):Int).toNat) a5.1).bind fun a7=>(some a7)) else (none)) else (none)) else (some false)) else (some false)) else (some false)))
theorem Ce.calls (k:Nat) (a0:ByteArray) (a1:ByteArray) (r:Bool) (w:World) (kN:jg w) (h:Ce.f k a0 a1=some r) :
  Calls Tryz.prog 46 #[.string a0,.string a1] w fun e w'=>e=.returned (.bool r)∧Below w.heap.size w w':=by
 have HD:=m_ kN;clear kN;have HB:=m_ (Below.refl w.heap.size w);unfold Ce.f at h
 have H:=h;clear h;obtain ⟨⟨a7,a9⟩,A3,H⟩:=bd_ H;obtain ⟨⟨a6,aa⟩,A4,H⟩:=bd_ H;revert H;refine eU (fun c5 H=>?_) fun c5 H=>?_;rotate_left
 ·have al:=fZ c5;have am:=f_ c5;obtain rfl:=bQ H;go_enter func46,ntmps46
  go_wp2_with (first|((with_reducible refine cu 57 ?_);refine cO (some 11) rfl rfl func57 aC rfl #[.string a0] rfl bJ ?_;(with_reducible refine (mY.calls k a0 a7 a9 _ (jg.below HD.out ay) A3.out).mono ?_);rintro e b9 ⟨Xb,rfl,ho0,hb⟩;refine ⟨_,rfl,?_⟩;obtain ⟨a5,HB⟩:=p_ (Kd.dR ho0 (bU ay)) <| a_ (dV ay hb);(try clear hb);(try clear ho0))|((with_reducible refine cu 57 ?_);refine cO (some 16) rfl rfl func57 aC rfl #[.string a1] rfl bJ ?_;(with_reducible refine (mY.calls k a1 a6 aa _ (jg.below HD.out ay) A4.out).mono ?_);rintro e ba ⟨Xc,rfl,ho0,hb⟩;refine ⟨_,rfl,?_⟩;obtain ⟨a5,a8,HB⟩:=p_ (Kd.jP (aN a5) (Kd.iY ho0) hb) <| p_ (Kd.dR (Kd.jQ ho0 (Kd.jl (aN a5))) (bU ay)) <| a_ (dV ay hb);(try clear hb);(try clear ho0)))
  go_ret
  exact ⟨bK,ay⟩
 have al:=fU c5;have am:=fV c5;clear c5;revert H;refine eU (fun c6 H=>?_) fun c6 H=>?_;rotate_left
 ·have an:=fZ c6;have ao:=f_ c6;obtain rfl:=bQ H;go_enter func46,ntmps46
  go_wp2_with (first|((with_reducible refine cu 57 ?_);refine cO (some 11) rfl rfl func57 aC rfl #[.string a0] rfl bJ ?_;(with_reducible refine (mY.calls k a0 a7 a9 _ (jg.below HD.out ay) A3.out).mono ?_);rintro e bb ⟨Xb,rfl,ho0,hb⟩;refine ⟨_,rfl,?_⟩;obtain ⟨a5,HB⟩:=p_ (Kd.dR ho0 (bU ay)) <| a_ (dV ay hb);(try clear hb);(try clear ho0))|((with_reducible refine cu 57 ?_);refine cO (some 16) rfl rfl func57 aC rfl #[.string a1] rfl bJ ?_;(with_reducible refine (mY.calls k a1 a6 aa _ (jg.below HD.out ay) A4.out).mono ?_);rintro e bc ⟨Xc,rfl,ho0,hb⟩;refine ⟨_,rfl,?_⟩;obtain ⟨a5,a8,HB⟩:=p_ (Kd.jP (aN a5) (Kd.iY ho0) hb) <| p_ (Kd.dR (Kd.jQ ho0 (Kd.jl (aN a5))) (bU ay)) <| a_ (dV ay hb);(try clear hb);(try clear ho0)))
  go_ret
  exact ⟨bK,ay⟩
 have an:=fU c6;have ao:=fV c6;clear c6;revert H;refine eU (fun c7 H=>?_) fun c7 H=>?_;rotate_left
 ·have ap:=wQ c7;have aq:decide (a6.length < a7.length)=false:=wQ (fun h=>c7 (Int.ofNat_lt.mpr h));clear c7;obtain rfl:=bQ H;go_enter func46,ntmps46
  go_wp2_with (first|((with_reducible refine cu 57 ?_);refine cO (some 11) rfl rfl func57 aC rfl #[.string a0] rfl bJ ?_;(with_reducible refine (mY.calls k a0 a7 a9 _ (jg.below HD.out ay) A3.out).mono ?_);rintro e bd ⟨Xb,rfl,ho0,hb⟩;refine ⟨_,rfl,?_⟩;obtain ⟨a5,HB⟩:=p_ (Kd.dR ho0 (bU ay)) <| a_ (dV ay hb);(try clear hb);(try clear ho0))|((with_reducible refine cu 57 ?_);refine cO (some 16) rfl rfl func57 aC rfl #[.string a1] rfl bJ ?_;(with_reducible refine (mY.calls k a1 a6 aa _ (jg.below HD.out ay) A4.out).mono ?_);rintro e be ⟨Xc,rfl,ho0,hb⟩;refine ⟨_,rfl,?_⟩;obtain ⟨a5,a8,HB⟩:=p_ (Kd.jP (aN a5) (Kd.iY ho0) hb) <| p_ (Kd.dR (Kd.jQ ho0 (Kd.jl (aN a5))) (bU ay)) <| a_ (dV ay hb);(try clear hb);(try clear ho0);obtain ⟨bD,az,ar⟩:=Kd.dN a5.out;subst ar;obtain ⟨b0,b1,aT⟩:=Kd.dN a8.out;subst aT))
  go_ret
  exact ⟨bK,ay⟩
 have ap:=nJ c7;have aq:decide (a6.length < a7.length)=true:=nJ (Int.ofNat_lt.mp c7);clear c7;obtain ⟨b2,b3,H⟩:=jF H;obtain ⟨b4,b5,H⟩:=jF H;obtain ⟨ac,ab⟩:∃ y_:List ByteArray,y_=(a7.take ((a6.length:Int):Int).toNat):=⟨_,rfl⟩;rw [← ab] at H;have ae:=m_ ab;clear ab;obtain ⟨ag,b6,H⟩:=bd_ H;obtain rfl:=bQ H;go_enter func46,ntmps46
 go_wp2_with (first|((with_reducible refine cu 57 ?_);refine cO (some 11) rfl rfl func57 aC rfl #[.string a0] rfl bJ ?_;(with_reducible refine (mY.calls k a0 a7 a9 _ (jg.below HD.out ay) A3.out).mono ?_);rintro e fA ⟨Xb,rfl,ho0,hb⟩;refine ⟨_,rfl,?_⟩;obtain ⟨a5,HB⟩:=p_ (Kd.dR ho0 (bU ay)) <| a_ (dV ay hb);(try clear hb);(try clear ho0))|((with_reducible refine cu 57 ?_);refine cO (some 16) rfl rfl func57 aC rfl #[.string a1] rfl bJ ?_;(with_reducible refine (mY.calls k a1 a6 aa _ (jg.below HD.out ay) A4.out).mono ?_);rintro e dL ⟨Xc,rfl,ho0,hb⟩;refine ⟨_,rfl,?_⟩;obtain ⟨a5,a8,HB⟩:=p_ (Kd.jP (aN a5) (Kd.iY ho0) hb) <| p_ (Kd.dR (Kd.jQ ho0 (Kd.jl (aN a5))) (bU ay)) <| a_ (dV ay hb);(try clear hb);(try clear ho0);obtain ⟨aH,aK,av⟩:=Kd.dN a5.out;subst av;obtain ⟨b7,b8,aw⟩:=Kd.dN a8.out;subst aw;have ax:((a6.length:Int):Int)≤((a7.length:Int):Int):=aX aY;obtain ⟨aCp,aaB,_,alN,_⟩:=info_parts info9;have aaM:a7.length≤aK:=(Kd.dn a5.out).2.1;have Zj:Kd.C Kd.string _ aH a7.length a7:=(Kd.dn a5.out).2.2;have agD:=EP (P:=Tryz.prog) 38 9 .i64 underlying38 aaB aH a7.length aK (a6.length:Int) (aX aY) ax aaM;have Vy:=Kd.yx (m:=((a6.length:Int):Int).toNat) Zj (by omega);have ai:ac.length=((a6.length:Int):Int).toNat:=(by rw [ae.out,List.length_take];omega);rw [← ae.out] at Vy;rw [← ai] at agD;have af:=m_ Vy;have aO:=m_ (show ac.length≤aK from by omega);clear Vy Zj aaM aaB alN;have aqb:=m_ ai;clear ai;have ap_:=m_ (show ((a6.length:Int):Int).toNat≤a7.length from by omega);replace ax:=eq_true ax)|(go_at_call 95;(with_reducible refine (slices_Equal_string.calls k _ _ ac _ _ a6 ag _ ?jW aO.out ?rV ((Kd.dn a8.out).2.1) b6.out).mono ?_);(case jW=>repeat (first|exact (by repeat (first|(with_reducible exact af.out)|(with_reducible refine Kd.kM ?_ _)|(with_reducible refine Kd.kR ?_ _)|(with_reducible refine Kd.kQ ?_)|exact af.out))|(with_reducible refine Kd.kM ?_ _)|(with_reducible refine Kd.kR ?_ _)|(with_reducible refine Kd.kQ ?_)));(case rV=>repeat (first|exact (Kd.dn a8.out).2.2|(with_reducible refine Kd.kM ?_ _)|(with_reducible refine Kd.kR ?_ _)|(with_reducible refine Kd.kQ ?_)));rintro e w' ⟨rfl,⟨nd,rfl⟩⟩))
 go_ret
 exact ⟨bK,ay⟩

def cmp_isNaN_string.f (a0:ByteArray):Option (Bool):=some (a0.toList != a0.toList)
theorem cmp_isNaN_string.calls (a0:ByteArray) (r:Bool) (w:World) (h:cmp_isNaN_string.f a0=some r) :
  Calls Tryz.prog 97 #[.string a0] w fun e w'=>e=.returned (.bool r)∧pO w w':=by
 unfold cmp_isNaN_string.f at h
 have H:=h;clear h;obtain rfl:=bQ H;go_enter func97,ntmps97
 go_wp2
 go_ret
 exact ⟨bC,kL⟩

def Hu.f (a0:ByteArray) (a1:ByteArray):Option (Int):=(cmp_isNaN_string.f a0).bind fun a6=>((cmp_isNaN_string.f a1).bind fun a5=>(if a6=true then (if a5=true then (some 0) else (some (-1))) else (if a5=true then (some 1) else (if (Op.bytesLess a0.toList a1.toList)=true then (some (-1)) else (if (Op.bytesLess a1.toList a0.toList)=true then (some 1) else (some 0))))))
theorem Hu.calls (a0:ByteArray) (a1:ByteArray) (r:Int) (w:World) (h:Hu.f a0 a1=some r) :
  Calls Tryz.prog 49 #[.string a0,.string a1] w fun e w'=>e=.returned (ah r)∧pO w w':=by
 unfold Hu.f at h
 have H:=h;clear h;obtain ⟨a9,A3,H⟩:=bd_ H;obtain ⟨a7,A4,H⟩:=bd_ H;have aa:=m_ H;clear H;go_enter func49,ntmps49
 go_upto_if 11 with (first|((with_reducible refine cu 97 ?_);refine cO (some 8) rfl rfl func97 aC rfl #[.string a0] rfl bJ ?_;(with_reducible refine (cmp_isNaN_string.calls a0 a9 _ A3.out).mono ?_);rintro e w' ⟨rfl,⟨nd,rfl⟩⟩;refine ⟨_,rfl,?_⟩)|((with_reducible refine cu 97 ?_);refine cO (some 10) rfl rfl func97 aC rfl #[.string a1] rfl bJ ?_;(with_reducible refine (cmp_isNaN_string.calls a1 a7 _ A4.out).mono ?_);rintro e w' ⟨rfl,⟨nd,rfl⟩⟩;refine ⟨_,rfl,?_⟩))
 (try simp only [fM])
 obtain ⟨H⟩:=aa;by_cases c6:a9=true
 ·subst c6;rw [if_pos rfl] at H;by_cases c7:a7=true
  ·subst c7;rw [if_pos rfl] at H;obtain rfl:=bQ H;go_wp2
   go_ret
   exact ⟨bC,kL⟩
  replace c7:=Bool.eq_false_iff.mpr c7;subst c7;rw [if_neg iF] at H;obtain rfl:=bQ H;go_wp2
  go_ret
  exact ⟨bC,kL⟩
 replace c6:=Bool.eq_false_iff.mpr c6;subst c6;rw [if_neg iF] at H;by_cases c8:a7=true
 ·subst c8;rw [if_pos rfl] at H;obtain rfl:=bQ H;go_wp2
  go_ret
  exact ⟨bC,kL⟩
 replace c8:=Bool.eq_false_iff.mpr c8;subst c8;rw [if_neg iF] at H;revert H;refine eU (fun c9 H=>?_) fun c9 H=>?_
 ·have a5:(Op.bytesLess a0.toList a1.toList)=true:=c9;clear c9;(first|rw [a5]|(simp only [aV,aZ];rw [a5])|rw [Ac,a5]|rw [Dv,a5]|skip)
  obtain rfl:=bQ H;go_wp2
  go_ret
  exact ⟨bC,kL⟩
 have a5:(Op.bytesLess a0.toList a1.toList)=false:=by simpa using c9
 clear c9;(first|rw [a5]|(simp only [aV,aZ];rw [a5])|rw [Ac,a5]|rw [Dv,a5]|skip)
 revert H;refine eU (fun a8 H=>?_) fun a8 H=>?_
 ·have a6:(Op.bytesLess a1.toList a0.toList)=true:=a8;have afO:(!(a0.toList == a1.toList))=true:=by have bT:=Dv a1.toList a0.toList;rw [a5,a6] at bT;simpa using bT
  clear a8;obtain rfl:=bQ H;go_wp2
  go_ret
  exact ⟨bC,kL⟩
 have a6:(Op.bytesLess a1.toList a0.toList)=false:=by simpa using a8
 have afO:(!(a0.toList == a1.toList))=false:=by have bT:=Dv a1.toList a0.toList;rw [a5,a6] at bT;simpa using bT
 clear a8;obtain rfl:=bQ H;go_wp2
 go_ret
 exact ⟨bC,kL⟩

def vg.f (a5:ByteArray) (a8:Bool) (a9:ByteArray) (a6:ByteArray) (aa:Bool) (ab:ByteArray):Option (Int):=(Hu.f a5 a6).bind fun a7=>(some a7)
theorem vg.calls (a8:ByteArray) (a9:Bool) (aa:ByteArray) (iW:ByteArray) (iC:Bool) (iM:ByteArray) (r:Int) (w:World) (h:vg.f a8 a9 aa iW iC iM=some r) :
  Calls Tryz.prog 48 #[.agg #[.string a8,.bool a9,.string aa],.agg #[.string iW,.bool iC,.string iM]] w fun e w'=>e=.returned (ah r)∧Below w.heap.size w w':=by
 have tX:=underlying43;have HB:=m_ (Below.refl w.heap.size w);unfold vg.f at h
 have H:=h;clear h;obtain ⟨af,A3,H⟩:=bd_ H;obtain rfl:=bQ H;go_enter func48,ntmps48
 go_wp2_with (first|((with_reducible refine dJ 2 ?_);refine dO 2 (cs:=#[.string a8,.bool a9,.string aa]) 43 ?_;intro ag hg w4 hbox hb;obtain ⟨HB,a5,aK,ai⟩:=jR ay hb hbox hg;clear hb hbox hg)|((with_reducible refine dJ 3 ?_);refine dO 3 (cs:=#[.string iW,.bool iC,.string iM]) 43 ?_;intro aH hg w5 hbox hb;obtain ⟨a5,HB,ab,aO,al,a6,a7⟩:=oO (au a5) ay hb hbox hg;clear hb hbox hg;obtain ⟨ac,ae⟩:=gy a6 a7;have am:=qj a5.out;have an:=qj ab.out)|((with_reducible refine cu 49 ?_);refine cO (some 9) rfl rfl func49 aC rfl #[.string a8,.string iW] rfl bJ ?_;(with_reducible refine (Hu.calls a8 iW af _ A3.out).mono ?_);rintro e w' ⟨rfl,⟨nd,rfl⟩⟩;refine ⟨_,rfl,?_⟩))
 go_ret
 exact ⟨bK,ay⟩

mutual
def kU.l0:Nat→List (aF)→Int→Int→Int→Option ((List (aF)))
 | 0,_,_,_,_=>none
 | k+1,x0,x1,x2,gZ=>if gZ < x2 then (kU.l1 k x0 x1 x2 gZ gZ) else (some x0)
def kU.l1:Nat→List (aF)→Int→Int→Int→Int→Option ((List (aF)))
 | 0,_,_,_,_,_=>none
 | k+1,x0,x1,x2,gZ,oM=>if oM > x1 then (if 0≤oM then (if oM < (x0.length:Int) then (if 0≤(wrap64 (oM - 1)) then (if (wrap64 (oM - 1)) < (x0.length:Int) then ((vg.f ((aB x0 oM).f0) ((aB x0 oM).f1) ((aB x0 oM).f2) ((aB x0 (wrap64 (oM - 1))).f0) ((aB x0 (wrap64 (oM - 1))).f1) ((aB x0 (wrap64 (oM - 1))).f2)).bind fun a5=>(if a5 < 0 then (kU.l1 k ((x0.set (oM:Int).toNat (⟨(aB x0 (wrap64 (oM - 1))).f0,(aB x0 (wrap64 (oM - 1))).f1,(aB x0 (wrap64 (oM - 1))).f2⟩:aF)).set ((wrap64 (oM - 1)):Int).toNat (⟨(aB x0 oM).f0,(aB x0 oM).f1,(aB x0 oM).f2⟩:aF)) x1 x2 gZ (wrap64 (oM - 1))) else (kU.l0 k x0 x1 x2 (wrap64 (gZ+1))))) else (none)) else (none)) else (none)) else (none)) else (kU.l0 k x0 x1 x2 (wrap64 (gZ+1)))
end
def kU.f (k:Nat) (l0:List (aF)) (a1:Int) (a2:Int) (a3:Unit):Option ((List (aF))):=kU.l0 k l0 a1 a2 (wrap64 (a1+1))
def kU.T4:Bool × List (List Nat × List Nat):=(true,[([],[]),([],[]),([0,1],[0,1]),([2],[2]),([3],[3]),([3],[3]),([3],[3]),([5,6,3],[3,5,6]),([7,3],[3,7]),([3],[3]),([3],[3]),([10,3],[3,10]),([9,11,3],[3,9,11]),([12,3],[3,12]),([4,8,13,3,3],[3,4,8,13]),([14,3],[3,14]),([3,15],[3,15])])
def kU.B4:List Nat:=[0,0,3,7,15,15,15,111,239,15,15,1039,3599,7695,16383,32767,65535]
theorem kU.Gg:kZ .any (opsOf Tryz.f132 4)=kU.T4:=by kernel_rfl
theorem kU.EJ:vF kU.T4.2 kU.B4=true:=by kernel_rfl
def kU.T6:Bool × List (List Nat × List Nat):=(true,[([],[]),([],[]),([],[]),([],[]),([3],[3]),([],[]),([],[]),([6],[6]),([5,7],[5,7]),([8],[8]),([],[]),([],[]),([10,11],[10,11]),([12],[12]),([0,1,0,1,5,6,7,8,9,13],[0,1]),([14,9,0,1,5,6,7,8,9,13],[9,14]),([2,4,0,1,2,3,4,5,6,7,8,9,10,11,12,13,14,15],[2,4]),([16,13,15,0,1,2,3,4,5,6,7,8,9,10,11,12,13,14,15],[13,16])])
def kU.B6:List Nat:=[0,0,0,0,8,0,0,64,224,480,0,0,3072,7168,16355,32739,65535,131071]
theorem kU.calls (k:Nat) (dA:Nat→Prop) (gX:Value) (l0:List (aF)) (a1:Int) (a2:Int) (a3:Unit) (r:List (aF)) (w0 w:World) (hB:Below w0.heap.size w0 w) (ho0:Kd.R aS 43 w w0.heap.size dA gX l0) (h:kU.f k l0 a1 a2 a3=some r) :
  Calls Tryz.prog 132 #[gX,ah a1,ah a2,.func (.func 48) #[] #[]] w fun e w'=>e=.returned (.tuple #[])∧Kd.R aS 43 w' w0.heap.size (fun ak=>(dA ak∨w.heap.size≤ak)) gX r∧Below w0.heap.size w0 w'∧Kept w w' (fun ak=>dA ak):=by
 have tX:=underlying43;have d2:=m_ (show Kd.R aS 43 w w0.heap.size (fun ak=>(dA ak∨w.heap.size≤ak)) gX l0 from Kd.bF ho0 (fun ak hk=>(.inl hk)));have HK:=m_ (Kept.refl w (fun ak=>dA ak));have HW0:=m_ hB.size;have HB:=m_ hB;clear hB;unfold kU.f at h
 have H:=h;clear h;have H':=m_ H;clear H;go_enter func132,ntmps132
 go_wp2
 go_loopg [8] k (fun kq v8 w'=>∃ (ax:List (aF)) (dw:Int),v8=ah dw∧aA (kU.l0 kq ax a1 a2 dw=some r)∧aA (kq≤k)∧aA (Kd.R aS 43 w' w0.heap.size (fun ak=>(dA ak∨w.heap.size≤ak)) gX ax)∧aA (Kept w w' (fun ak=>dA ak))∧aA (Below w0.heap.size w0 w'))
 case atStart=>exact ⟨(l0),(wrap64 (a1+1)),bC,H',⟨Nat.le_refl _⟩,⟨(aN d2)⟩,⟨iw⟩,⟨ay⟩⟩
 case round =>
 clear H';obtain ⟨ax,dw,rfl,HA,gG,bn,HK,HB⟩:=hrel;cases gk with
 | zero=>exact absurd HA.out (by simp [kU.l0])
 | succ k1 =>
 obtain ⟨H⟩:=HA;simp only [kU.l0] at H
 revert H;refine fB (fun bp H=>?_) fun bp H=>?_;rotate_left
 ·obtain rfl:=bQ H;go_wp2
  first|go_end0|((try simp only [Exit.inBlock,Exit.then]);refine bodyPost_ret (results_none rfl _ _ _) rfl ?_)
  exact ⟨bK,(aN bn),ay,iw⟩
 have H':=m_ H;clear H;go_wp2
 go_loopg [9] k1 (fun kq v9 w'=>∃ (a5:List (aF)) (a6:Int),v9=ah a6∧aA (kU.l1 kq a5 a1 a2 dw a6=some r)∧aA (kq≤k1)∧aA (Kd.R aS 43 w' w0.heap.size (fun ak=>(dA ak∨w.heap.size≤ak)) gX a5)∧aA (Kept w w' (fun ak=>dA ak))∧aA (Below w0.heap.size w0 w'))
 case atStart=>exact ⟨(ax),(dw),bC,H',⟨Nat.le_refl _⟩,⟨(aN bn)⟩,⟨iw⟩,⟨ay⟩⟩
 case round =>
 clear H';try clear c5;try clear bp
 obtain ⟨a5,a6,rfl,HA,kS,bn,HK,HB⟩:=hrel;cases gk with
 | zero=>exact absurd HA.out (by simp [kU.l1])
 | succ k2 =>
 obtain ⟨H⟩:=HA;simp only [kU.l1] at H
 revert H;refine fB (fun co H=>?_) fun co H=>?_;rotate_left
 ·have H':=m_ H;clear H;try go_wp2
  obtain ⟨bn,HK,HB⟩:=p_ (Kd.bH bn.out) <| p_ (Kept.drew HK.out) <| a_ (nZ HB.out);refine iU (n:=17) (S:=fun w'=>True) (ds:=[]) Yl aC rfl rfl trivial (fun hH=>?_);refine kF kU.Gg kU.EJ (fun aP fK=>?_);generalize wr.drew=dg at bn HK HB hH ⊢;refine bM 0 ?_;refine bM 1 ?_;refine bM 2 ?_;refine bM 3 ?_;refine lN 4 ?_;refine lN 5 ?_;refine lN 6 ?_;refine lN 7 ?_;refine yZ 8 26 #[aj,aj,aj,aj,aj,aj,aj,aj,aj,F_,F_,F_,F_,F_,F_,F_,F_] aP ?_;refine yZ 9 27 #[aj,aj,aj,aj,aj,aj,aj,aj,aj,aj,F_,F_,F_,F_,F_,F_,F_] aP ?_;refine yZ 10 28 #[aj,aj,aj,aj,aj,aj,aj,aj,aj,aj,aj,F_,F_,F_,F_,F_,F_] aP ?_;refine yZ 11 29 #[aj,aj,aj,aj,aj,aj,aj,aj,aj,aj,aj,aj,F_,F_,F_,F_,F_] aP ?_;refine lN 12 ?_;refine lN 13 ?_;refine lN 14 ?_;refine lN 15 ?_;refine bM 16 ?_;refine jd (kC aP.out aC) ?_;try go_wp2
  go_roundg k2
  case measure=>have:=gG.out;have:=kS.out;omega
  case rel=>exact ⟨(a5),(wrap64 (dw+1)),bC,H',⟨MZ⟩,⟨(aN bn)⟩,⟨iw⟩,⟨ay⟩⟩
 obtain ⟨d3,H⟩:=gI H;obtain ⟨d4,H⟩:=gI H;obtain ⟨iH,LD⟩:∃ mZ:Int,(wrap64 (a6 - 1))=mZ:=⟨_,rfl⟩;replace H:(if 0≤(iH) then (if (iH) < (a5.length:Int) then ((vg.f ((aB a5 a6).f0) ((aB a5 a6).f1) ((aB a5 a6).f2) ((aB a5 (iH)).f0) ((aB a5 (iH)).f1) ((aB a5 (iH)).f2)).bind fun bD=>(if bD < 0 then (kU.l1 k2 ((a5.set (a6:Int).toNat (⟨(aB a5 (iH)).f0,(aB a5 (iH)).f1,(aB a5 (iH)).f2⟩:aF)).set ((iH):Int).toNat (⟨(aB a5 a6).f0,(aB a5 a6).f1,(aB a5 a6).f2⟩:aF)) a1 a2 dw iH) else (kU.l0 k2 a5 a1 a2 (wrap64 (dw+1))))) else (none)) else (none))=some r:=by first|(rw [LD] at H;exact H)|(simp only [LD] at H ⊢;exact H)
 have aAM:(IntKind.i64.wrap (a6 - 1))=iH:=(aV _).trans LD;obtain ⟨cz,H⟩:=gI H;obtain ⟨d1,H⟩:=gI H;obtain ⟨bD,d5,H⟩:=bd_ H;have bq:=m_ H;clear H;try go_wp2
 obtain ⟨bn,HK,HB⟩:=p_ (Kd.bH bn.out) <| p_ (Kept.drew HK.out) <| a_ (nZ HB.out);obtain ⟨d6,d7,br⟩:=Kd.dN bn.out;(first|subst br|(injection br with eu iE eF;have iJ:=eu.symm;have iK:=eF.symm;clear eu iE eF;subst iJ;subst iK))
 have b3:0≤(a6:Int):=aX aY;have b4:a6 < (a5.length:Int):=aX aY;obtain ⟨a8,cp,a9,aa,ab⟩:=jV (Kd.dn bn.out).2.2 a6 b3 b4;cases cp;replace b3:=eq_true b3;replace b4:=eq_true b4;have b5:0≤((iH):Int):=aX aY;have b6:(iH) < (a5.length:Int):=aX aY;obtain ⟨bs,cq,ac,ae,af⟩:=jV (Kd.dn bn.out).2.2 (iH) b5 b6;obtain rfl:a8=bs:=(by injection cq);replace b5:=eq_true b5;replace b6:=eq_true b6;refine iU (n:=17) (S:=fun w'=>Kq w' (a8.add ((a6).toNat * 3)) (.string ((aB a5 a6).f0)) (.bool ((aB a5 a6).f1)) (.string ((aB a5 a6).f2)) <| uS w' (a8.add (((iH)).toNat * 3)) (.string ((aB a5 (iH)).f0)) (.bool ((aB a5 (iH)).f1)) (.string ((aB a5 (iH)).f2))) (ds:=[]) Yl aC rfl rfl ⟨a9,aa,ab,ac,ae,af⟩ (fun hH=>?_);refine kF kU.Gg kU.EJ (fun aP fK=>?_);generalize wr.drew=pF at bn HK HB a9 aa ab ac ae af hH ⊢;refine bM 0 ?_;refine bM 1 ?_;refine bM 2 ?_;refine bM 3 ?_;refine bM 4 ?_;refine bM 5 ?_;refine bM 6 ?_;refine bM 7 ?_;refine dF 9 27 #[aj,aj,aj,aj,aj,aj,aj,aj,F_,aj,F_,F_,F_,F_,F_,F_,F_] aP ?_;refine dF 10 28 #[aj,aj,aj,aj,aj,aj,aj,aj,F_,aj,aj,F_,F_,F_,F_,F_,F_] aP ?_;refine dF 11 29 #[aj,aj,aj,aj,aj,aj,aj,aj,F_,aj,aj,aj,F_,F_,F_,F_,F_] aP ?_;refine dF 12 30 #[aj,aj,aj,aj,aj,aj,aj,aj,F_,aj,aj,aj,aj,F_,F_,F_,F_] aP ?_;refine kE 8 hH ?_;refine kE 13 hH ?_;refine oH 14 (fun K hK=>?_);refine Ot func48 aC rfl #[.agg #[.string ((aB a5 a6).f0),.bool ((aB a5 a6).f1),.string ((aB a5 a6).f2)],.agg #[.string ((aB a5 (iH)).f0),.bool ((aB a5 (iH)).f1),.string ((aB a5 (iH)).f2)]] (by rfl) rfl rfl (by rfl) (by (try simp only [List.map_toArray,List.map_cons,List.map_nil]);first|done|(simp only [LD];rfl)|rfl|(simp only [List.length_drop,List.length_take];rfl)) ?_
 with_reducible refine (vg.calls ((aB a5 a6).f0) ((aB a5 a6).f1) ((aB a5 a6).f2) ((aB a5 (iH)).f0) ((aB a5 (iH)).f1) ((aB a5 (iH)).f2) bD _ d5.out).mono ?_
 rintro e d8 ⟨rfl,hb⟩;have Eo:=(hb.cell (World.block_lt_of_cell? _ _ (hH.1))).trans (hH.1);have Ep:=(hb.cell (World.block_lt_of_cell? _ _ (hH.2.1))).trans (hH.2.1);have Es:=(hb.cell (World.block_lt_of_cell? _ _ (hH.2.2.1))).trans (hH.2.2.1);have Et:=(hb.cell (World.block_lt_of_cell? _ _ (hH.2.2.2.1))).trans (hH.2.2.2.1);have Eu:=(hb.cell (World.block_lt_of_cell? _ _ (hH.2.2.2.2.1))).trans (hH.2.2.2.2.1);have Ew:=(hb.cell (World.block_lt_of_cell? _ _ (hH.2.2.2.2.2))).trans (hH.2.2.2.2.2);refine ⟨_,rfl,?_⟩;obtain ⟨bn,HK,HB⟩:=p_ (Kd.bG (aN bn) hb) <| p_ (Kept.below (S:=(fun ak=>dA ak)) iw hb) <| a_ (dV ay hb);(try clear hb)
 refine hK.out _ _ ⟨Eo,Ep,Es,Et,Eu,Ew⟩ (fun hH=>?_);clear hK K;refine gY (some 32) ?_;refine bM 15 ?_;refine bM 16 ?_;refine jd (kC aP.out aC) ?_;go_upto_if 34 with (fail)
 obtain ⟨H⟩:=bq;revert H;refine fB (fun am H=>?_) fun am H=>?_;rotate_left
 ·try simp only [aV,aZ,am]
  have H':=m_ H;clear H;go_wp2
  go_roundg k2
  case measure=>have:=gG.out;have:=kS.out;omega
  case rel=>exact ⟨(a5),(wrap64 (dw+1)),bC,H',⟨MZ⟩,⟨(aN bn)⟩,⟨iw⟩,⟨ay⟩⟩
 try simp only [aV,aZ,am]
 obtain ⟨aT,av⟩:∃ y_:List (aF),y_=(a5.set (a6:Int).toNat (⟨(aB a5 (iH)).f0,(aB a5 (iH)).f1,(aB a5 (iH)).f2⟩:aF)):=⟨_,rfl⟩;rw [← av] at H;have bu:=m_ av;clear av;obtain ⟨bv,aw⟩:∃ y_:List (aF),y_=(aT.set ((iH):Int).toNat (⟨(aB a5 a6).f0,(aB a5 a6).f1,(aB a5 a6).f2⟩:aF)):=⟨_,rfl⟩;rw [← aw] at H;have bw:=m_ aw;clear aw;have H':=m_ H;clear H;try go_wp2
 obtain ⟨bn,HK,HB⟩:=p_ (Kd.bH bn.out) <| p_ (Kept.drew HK.out) <| a_ (nZ HB.out);have b7:0≤((iH):Int):=aX aY;have b8:(iH) < (a5.length:Int):=aX aY;obtain ⟨bx,cr,ag,aK,ai⟩:=jV (Kd.dn bn.out).2.2 (iH) b7 b8;obtain rfl:a8=bx:=(by injection cr);replace b7:=eq_true b7;replace b8:=eq_true b8;have b9:0≤(a6:Int):=aX aY;have ba:a6 < (a5.length:Int):=aX aY;obtain ⟨bz,ct,aH,aO,al⟩:=jV (Kd.dn bn.out).2.2 a6 b9 ba;obtain rfl:a8=bz:=(by injection ct);replace b9:=eq_true b9;replace ba:=eq_true ba;have fE:0≤(a6:Int):=aX aY;have cv:(a6:Int) < ((a5.length:Int):Int):=aX aY;obtain ⟨a7,d9,ca,cc,cw,da,cd⟩:=Kd.xQ bn.out (by omega);(first|cases ca|(injection ca with jA sQ sO;(first|subst jA|(injection jA with jA;subst jA));subst sO;clear sQ))
 have ar:=m_ cc;have cx:=m_ cd;clear cc cw cd;have Gu:=m_ (show (dA a7∨w.heap.size≤a7) from (bn.out.1 _ rfl));(first|simp only [add_plain] at a9|skip)
 (first|simp only [add_plain] at aa|skip)
 (first|simp only [add_plain] at ab|skip)
 (first|simp only [add_plain] at ac|skip)
 (first|simp only [add_plain] at ae|skip)
 (first|simp only [add_plain] at af|skip)
 (first|simp only [add_plain] at ag|skip)
 (first|simp only [add_plain] at aK|skip)
 (first|simp only [add_plain] at ai|skip)
 (first|simp only [add_plain] at aH|skip)
 (first|simp only [add_plain] at aO|skip)
 (first|simp only [add_plain] at al|skip)
 obtain ⟨db,ce,cf,an,ao⟩:=Kd.nX bn.out z43 (a6:Int) fE cv;obtain rfl:=og cf;have bb:World.cell? _ ⟨a7,(a6:Int).toNat * 3,none⟩=some (.string ((aB a5 a6).f0)):=an 0 _ rfl;have bc:World.cell? _ ⟨a7,(a6:Int).toNat * 3+1,none⟩=some (.bool ((aB a5 a6).f1)):=an 1 _ rfl;have bd:World.cell? _ ⟨a7,(a6:Int).toNat * 3+2,none⟩=some (.string ((aB a5 a6).f2)):=an 2 _ rfl;have be:World.frozen? _ ⟨a7,(a6:Int).toNat * 3,none⟩=false:=ao 0;have fA:World.frozen? _ ⟨a7,(a6:Int).toNat * 3+1,none⟩=false:=ao 1;have dL:World.frozen? _ ⟨a7,(a6:Int).toNat * 3+2,none⟩=false:=ao 2;clear ce an ao cf;replace fE:=eq_true fE;replace cv:=eq_true cv;obtain ⟨dd,az,cg,b0,ch⟩:=Kd.nX bn.out z43 (a6:Int) (aX aY) (by have bI:(a6:Int) < ((a5.length:Int):Int):=aX aY;first|exact bI|(have e_:=(Kd.dn bn.out).1;omega)|simpa using bI);obtain rfl:=og cg;have QZ:=(Kd.vW bn.out (a6:Int) (aX aY) (by have bI:(a6:Int) < ((a5.length:Int):Int):=aX aY;first|exact bI|(have e_:=(Kd.dn bn.out).1;omega)|simpa using bI) (seg:=[.string ((aB a5 (iH)).f0),.bool ((aB a5 (iH)).f1),.string ((aB a5 (iH)).f2)]) (j:=0) az b0 (show 3≤3 from by decide) (x':=(⟨(aB a5 (iH)).f0,(aB a5 (iH)).f1,(aB a5 (iH)).f2⟩:aF)) (qU _ _ _ (⟨(aB a5 (iH)).f0,(aB a5 (iH)).f1,(aB a5 (iH)).f2⟩:aF) ) (fun _ hk=>hk)).1;rw [← bu.out] at QZ;have Ny:=m_ QZ;clear az b0 ch cg QZ;have cm:0≤((iH):Int):=aX aY;have cn:((iH):Int) < ((a5.length:Int):Int):=aX aY;obtain ⟨de,ci,cj,ap,aq⟩:=Kd.nX Ny.out z43 ((iH):Int) cm cn;obtain rfl:=og cj;have bh:World.cell? _ ⟨a7,((iH):Int).toNat * 3,none⟩=some (.string ((aB aT (iH)).f0)):=ap 0 _ rfl;have bi:World.cell? _ ⟨a7,((iH):Int).toNat * 3+1,none⟩=some (.bool ((aB aT (iH)).f1)):=ap 1 _ rfl;have bj:World.cell? _ ⟨a7,((iH):Int).toNat * 3+2,none⟩=some (.string ((aB aT (iH)).f2)):=ap 2 _ rfl;have bl:World.frozen? _ ⟨a7,((iH):Int).toNat * 3,none⟩=false:=aq 0;have bm:World.frozen? _ ⟨a7,((iH):Int).toNat * 3+1,none⟩=false:=aq 1;have fG:World.frozen? _ ⟨a7,((iH):Int).toNat * 3+2,none⟩=false:=aq 2;clear ci ap aq cj;replace cm:=eq_true cm;replace cn:=eq_true cn;obtain ⟨df,b1,ck,b2,cl⟩:=Kd.nX Ny.out z43 ((iH):Int) (aX aY) (by have bI:((iH):Int) < ((a5.length:Int):Int):=aX aY;first|exact bI|(have e_:=(Kd.dn bn.out).1;omega)|simpa using bI);obtain rfl:=og ck;have Q5:=(Kd.vW Ny.out ((iH):Int) (aX aY) (by have bI:((iH):Int) < ((a5.length:Int):Int):=aX aY;first|exact bI|(have e_:=(Kd.dn bn.out).1;omega)|simpa using bI) (seg:=[.string ((aB a5 a6).f0),.bool ((aB a5 a6).f1),.string ((aB a5 a6).f2)]) (j:=0) b1 b2 (show 3≤3 from by decide) (x':=(⟨(aB a5 a6).f0,(aB a5 a6).f1,(aB a5 a6).f2⟩:aF)) (qU _ _ _ (⟨(aB a5 a6).f0,(aB a5 a6).f1,(aB a5 a6).f2⟩:aF) ) (fun _ hk=>hk)).1
 rw [← bw.out] at Q5;have XF:=m_ Q5;clear b1 b2 cl ck Q5;refine iU (n:=18) (S:=fun w'=>NU w' a7 (((iH)).toNat * 3) (.string ((aB a5 (iH)).f0)) (.bool ((aB a5 (iH)).f1)) (.string ((aB a5 (iH)).f2)) <| NV w' a7 (((a6).toNat * 3)) (.string ((aB a5 a6).f0)) (.bool ((aB a5 a6).f1)) (.string ((aB a5 a6).f2))) (ds:=[15,17]) R_ aC rfl rfl ⟨ag,aK,ai,aH,aO,al⟩ (fun hH=>?_);refine kF (T:=kU.T6) (B:=kU.B6) aC aC (fun aP fK=>?_);generalize d8.drew=di at bn HK HB cx Ny XF be fA dL bl bm fG bb bc bd bh bi bj a9 aa ab ac ae af ag aK ai aH aO al hH ⊢;refine bM 0 ?_;refine bM 1 ?_;refine bM 2 ?_;refine bM 3 ?_;refine bM 4 ?_;refine bM 5 ?_;refine bM 6 ?_;refine bM 7 ?_;refine bM 8 ?_;refine bM 10 ?_;refine bM 11 ?_;refine bM 12 ?_;refine kE 9 hH ?_;refine kE 13 hH ?_;refine bM 14 ?_;refine zI 15 (fun K hK=>?_);refine jD (w1:=?_) (by rfl) rfl ?_ ?_;rotate_left
 ·go_simp
  rfl
 refine hK.out _ _ ?_;clear hK K;refine bM 16 ?_;refine zI 17 (fun K hK=>?_);refine jD (w1:=?_) (by rfl) rfl ?_ ?_;rotate_left
 ·obtain ⟨Sj,TJ,EX,wS,wU⟩:=Kd.nX bn.out z43 ((iH):Int) (of_eq_true cm) (of_eq_true cn);obtain rfl:=og EX;have SI:World.frozen? _ ⟨a7,((iH):Int).toNat * 3,none⟩=false:=wU 0;have F8:World.cell? _ ⟨a7,((iH):Int).toNat * 3,none⟩=some _:=wS 0 _ rfl;obtain ⟨_,SC⟩:=cell?_setCell_some (p:=⟨a7,(a6:Int).toNat * 3,none⟩) (x:=.string ((aB a5 (iH)).f0)) F8;have SK:World.frozen? _ ⟨a7,((iH):Int).toNat * 3+1,none⟩=false:=wU 1;have F9:World.cell? _ ⟨a7,((iH):Int).toNat * 3+1,none⟩=some _:=wS 1 _ rfl;obtain ⟨_,ES⟩:=cell?_setCell_some (p:=⟨a7,(a6:Int).toNat * 3,none⟩) (x:=.string ((aB a5 (iH)).f0)) F9;obtain ⟨_,SE⟩:=cell?_setCell_some (p:=⟨a7,(a6:Int).toNat * 3+1,none⟩) (x:=.bool ((aB a5 (iH)).f1)) ES;have SL:World.frozen? _ ⟨a7,((iH):Int).toNat * 3+2,none⟩=false:=wU 2;have Gf:World.cell? _ ⟨a7,((iH):Int).toNat * 3+2,none⟩=some _:=wS 2 _ rfl;obtain ⟨_,ET⟩:=cell?_setCell_some (p:=⟨a7,(a6:Int).toNat * 3,none⟩) (x:=.string ((aB a5 (iH)).f0)) Gf;obtain ⟨_,EU⟩:=cell?_setCell_some (p:=⟨a7,(a6:Int).toNat * 3+1,none⟩) (x:=.bool ((aB a5 (iH)).f1)) ET;obtain ⟨_,SG⟩:=cell?_setCell_some (p:=⟨a7,(a6:Int).toNat * 3+2,none⟩) (x:=.string ((aB a5 (iH)).f2)) EU;go_simp
  rfl
 refine hK.out _ _ ?_;clear hK K;refine jd (kC aP.out aC) ?_;try go_wp2
 go_roundg k2
 case measure=>have:=gG.out;have:=kS.out;omega
 case rel=>exact ⟨(bv),(iH),(by first|rfl|(simp;done)|(simp only [← LD] <;> (first|rfl|simp))|(simp [*];done)),H',⟨MZ⟩,⟨(aN XF)⟩,⟨(by repeat (first|(with_reducible first|exact HK.out|apply Kept.alloc|apply Kept.drewN|apply Kept.drew|refine Kept.setCell ?_ Gu.out _|refine Kept.setCell ?_ Gu.out _|refine Kept.setCell ?_ Gu.out _|refine Kept.setCell ?_ Gu.out _|refine Kept.setCell ?_ Gu.out _|refine Kept.setCell ?_ Gu.out _)|exact HK.out))⟩,⟨(by repeat (first|(with_reducible first|exact HB.out|apply sK|apply xB|apply nZ|refine jy ?_ ar.out|refine jy ?_ ar.out|refine jy ?_ ar.out|refine jy ?_ ar.out|refine jy ?_ ar.out|refine jy ?_ ar.out)|exact HB.out))⟩⟩

end Go.Proofs.YthejdhjpbpamoaaGreatDoor.pU
