/- Contracts of Go functions: each call returns what the Lean function beside it computes. Conditions: as each theorem states them. -/
import Derived.Test.YthejdhjpbpamoaaGreatDoorPkFnCodes
import Derived.Test.YthejdhjpbpamoaaGreatDoorPFnCodesx1
import Derived.Test.YthejdhjpbpamoaaGreatDoorPFnCodesx3
import Derived.Test.YthejdhjpbpamoaaGreatDoorPFnCodesx4
namespace Go.Proofs.YthejdhjpbpamoaaGreatDoor.jD
open Go.RowKit Go.Proofs.YthejdhjpbpamoaaGreatDoorW.iw Go.Proofs.YthejdhjpbpamoaaGreatDoorW.lH Go.Proofs.YthejdhjpbpamoaaGreatDoorW.oO Go.Proofs.Tryz
attribute [local go_sem] qw qB qA qF qy qE qx qC   -- for this text's walks alone
set_option linter.unusedVariables false
set_option maxHeartbeats 8000000
set_option maxRecDepth 100000
set_option linter.unusedSimpArgs false

def wX.f (k:Nat) (a0:ByteArray):Option (ByteArray):=(lS.f k a0).bind fun a5=>(if a5.2=0 then (if (a5.1.length:Int)=0 then (some (⟨#[]⟩:ByteArray)) else (if 0≤(wrap64 ((a5.1.length:Int) - 1)) then (if (wrap64 ((a5.1.length:Int) - 1))≤(a5.1.length:Int) then ((y9.f (a5.1.take ((wrap64 ((a5.1.length:Int) - 1)):Int).toNat)).bind fun a6=>(some a6)) else (none)) else (none))) else (some (⟨#[]⟩:ByteArray)))
theorem wX.calls (k:Nat) (a0:ByteArray) (r:ByteArray) (w:World) (jV:iK w) (h:wX.f k a0=some r) :
  Calls Tryz.prog 59 #[.string a0] w fun e w'=>e=.returned (.string r)∧Below w.heap.size w w':=by
 have HD:=m_ jV
 clear jV
 have HB:=m_ (Below.refl w.heap.size w)
 unfold wX.f at h
 have H:=h
 clear h
 obtain ⟨⟨a5,ac⟩,A2,H⟩:=bd_ H
 revert H;refine fH (fun c3 H=>?_) fun c3 H=>?_
 rotate_left
 ·have aK:=fP c3
  have ai:=fQ c3
  obtain rfl:=dF H
  go_enter func59,ntmps59
  go_wp2_with (first|((with_reducible refine bT 57 ?_);refine bU (some 7) rfl rfl func57 aB rfl #[.string a0] rfl aX ?_;(with_reducible refine (lS.calls k a0 a5 ac _ (iK.below HD.out au) A2.out).mono ?_);rintro e ax ⟨akN,rfl,ho0,hb⟩;refine ⟨_,rfl,?_⟩;obtain ⟨a6,HB⟩:=p_ (Kd.dI ho0 (cZ au)) <| a_ (dP au hb);(try clear hb);(try clear ho0)))
  go_ret
  exact ⟨bM,au⟩
 have aK:=fZ c3
 have ai:=f_ c3
 clear c3
 have an:=m_ H
 clear H
 go_enter func59,ntmps59
 go_upto_if 16 with (first|((with_reducible refine bT 57 ?_);refine bU (some 7) rfl rfl func57 aB rfl #[.string a0] rfl aX ?_;(with_reducible refine (lS.calls k a0 a5 ac _ (iK.below HD.out au) A2.out).mono ?_);rintro e w5 ⟨akN,rfl,ho0,hb⟩;refine ⟨_,rfl,?_⟩;obtain ⟨a6,HB⟩:=p_ (Kd.dI ho0 (cZ au)) <| a_ (dP au hb);(try clear hb);(try clear ho0);obtain ⟨aN,ag,aq⟩:=Kd.dK a6.out;subst aq))
 (try simp only [Act.put,List.setIfInBounds_toArray,List.set_cons_zero,List.set_cons_succ])
 obtain ⟨H⟩:=an
 revert H;refine fH (fun c7 H=>?_) fun c7 H=>?_
 ·have a7:=fZ c7
  have aQ:=f_ c7
  clear c7
  try simp only [aY,bf,a7]
  obtain rfl:=dF H
  go_wp2
  go_ret
  exact ⟨bM,au⟩
 have a7:=fP c7
 have aQ:=fQ c7
 have ar:¬ (a5=[]):=fun dG=>c7 (by rw [dG];rfl)
 try simp only [aY,bf,a7]
 obtain ⟨ji,rV⟩:∃ lU:Int,(wrap64 ((a5.length:Int) - 1))=lU:=⟨_,rfl⟩
 replace H:(if 0≤(ji) then (if (ji)≤(a5.length:Int) then ((y9.f (a5.take ((ji):Int).toNat)).bind fun a8=>(some a8)) else (none)) else (none))=some r:=by first|(rw [rV] at H;exact H)|(simp only [rV] at H ⊢;exact H)
 have MV:(IntKind.i64.wrap ((a5.length:Int) - 1))=ji:=(aY _).trans rV
 obtain ⟨aW,av,H⟩:=jE H
 obtain ⟨ao,ap,H⟩:=jE H
 obtain ⟨a9,aa⟩:∃ y_:List ByteArray,y_=(a5.take ((ji):Int).toNat):=⟨_,rfl⟩
 rw [← aa] at H
 have ab:=m_ aa
 clear aa
 obtain ⟨a8,aw,H⟩:=bd_ H
 obtain rfl:=dF H
 have am:((ji):Int)≤((a5.length:Int):Int):=bF bG
 obtain ⟨aiX,Jc,_,Tf,_⟩:=info_parts info9
 have Jy:a5.length≤ag:=(Kd.dN a6.out).2.1
 have Jb:Kd.C Kd.string _ aN a5.length a5:=(Kd.dN a6.out).2.2
 have Qq:=Dl (P:=Tryz.prog) 38 9 .i64 underlying38 Jc aN a5.length ag (ji) (bF bG) am Jy
 have DN:=Kd.xu (m:=((ji):Int).toNat) Jb (by omega)
 have ae:a9.length=((ji):Int).toNat:=(by rw [ab.out,List.length_take];omega)
 rw [← ab.out] at DN
 rw [← ae] at Qq
 have OV:=m_ DN
 have af:=m_ (show a9.length≤ag from by omega)
 clear DN Jb Jy Jc Tf
 have abE:=m_ ae
 clear ae
 have abB:=m_ (show ((ji):Int).toNat≤a5.length from by omega)
 replace am:=eq_true am
 go_wp2_with (first|((with_reducible refine bT 70 ?_);refine bU (some 22) rfl rfl func70 aB rfl #[.slice aN a9.length ag] rfl aX ?_;(with_reducible refine (y9.calls _ _ a9 a8 _ ?kX af.out aw.out).mono ?_);(case kX=>repeat (first|exact aap|(with_reducible refine Kd.jO ?_ _)|(with_reducible refine Kd.jT ?_ _)|(with_reducible refine Kd.jS ?_)));rintro e bH ⟨rfl,hb⟩;refine ⟨_,rfl,?_⟩;obtain ⟨a6,OV,HB⟩:=p_ (Kd.dw (aJ a6) hb) <| p_ (Kd.pJ aap hb) <| a_ (dP au hb);(try clear hb)))
 go_ret
 exact ⟨NW,au⟩

def DW.f (k:Nat) (a0:ByteArray):Option (ByteArray):=(lS.f k a0).bind fun a5=>(if a5.2=0 then (if (a5.1.length:Int)=0 then (some (⟨#[]⟩:ByteArray)) else (if 0≤(wrap64 ((a5.1.length:Int) - 1)) then (if (wrap64 ((a5.1.length:Int) - 1)) < (a5.1.length:Int) then (some (rZ ByteArray.empty a5.1 (wrap64 ((a5.1.length:Int) - 1)))) else (none)) else (none))) else (some (⟨#[]⟩:ByteArray)))
theorem DW.calls (k:Nat) (a0:ByteArray) (r:ByteArray) (w:World) (jV:iK w) (h:DW.f k a0=some r) :
  Calls Tryz.prog 62 #[.string a0] w fun e w'=>e=.returned (.string r)∧Below w.heap.size w w':=by
 have HD:=m_ jV
 clear jV
 have HB:=m_ (Below.refl w.heap.size w)
 unfold DW.f at h
 have H:=h
 clear h
 obtain ⟨⟨a5,a8⟩,A2,H⟩:=bd_ H
 revert H;refine fH (fun c3 H=>?_) fun c3 H=>?_
 rotate_left
 ·have ac:=fP c3
  have ae:=fQ c3
  obtain rfl:=dF H
  go_enter func62,ntmps62
  go_wp2_with (first|((with_reducible refine bT 57 ?_);refine bU (some 7) rfl rfl func57 aB rfl #[.string a0] rfl aX ?_;(with_reducible refine (lS.calls k a0 a5 a8 _ (iK.below HD.out au) A2.out).mono ?_);rintro e ao ⟨akO,rfl,ho0,hb⟩;refine ⟨_,rfl,?_⟩;obtain ⟨a6,HB⟩:=p_ (Kd.dI ho0 (cZ au)) <| a_ (dP au hb);(try clear hb);(try clear ho0)))
  go_ret
  exact ⟨bM,au⟩
 have ac:=fZ c3
 have ae:=f_ c3
 clear c3
 have aK:=m_ H
 clear H
 go_enter func62,ntmps62
 go_upto_if 16 with (first|((with_reducible refine bT 57 ?_);refine bU (some 7) rfl rfl func57 aB rfl #[.string a0] rfl aX ?_;(with_reducible refine (lS.calls k a0 a5 a8 _ (iK.below HD.out au) A2.out).mono ?_);rintro e w5 ⟨akO,rfl,ho0,hb⟩;refine ⟨_,rfl,?_⟩;obtain ⟨a6,HB⟩:=p_ (Kd.dI ho0 (cZ au)) <| a_ (dP au hb);(try clear hb);(try clear ho0);obtain ⟨ap,aq,al⟩:=Kd.dK a6.out;subst al))
 (try simp only [Act.put,List.setIfInBounds_toArray,List.set_cons_zero,List.set_cons_succ])
 obtain ⟨H⟩:=aK
 revert H;refine fH (fun c7 H=>?_) fun c7 H=>?_
 ·have a7:=fZ c7
  have af:=f_ c7
  clear c7
  try simp only [aY,bf,a7]
  obtain rfl:=dF H
  go_wp2
  go_ret
  exact ⟨bM,au⟩
 have a7:=fP c7
 have af:=fQ c7
 have am:¬ (a5=[]):=fun dG=>c7 (by rw [dG];rfl)
 try simp only [aY,bf,a7]
 obtain ⟨ji,rV⟩:∃ lU:Int,(wrap64 ((a5.length:Int) - 1))=lU:=⟨_,rfl⟩
 replace H:(if 0≤(ji) then (if (ji) < (a5.length:Int) then (some (rZ ByteArray.empty a5 (ji))) else (none)) else (none))=some r:=by first|(rw [rV] at H;exact H)|(simp only [rV] at H ⊢;exact H)
 have MV:(IntKind.i64.wrap ((a5.length:Int) - 1))=ji:=(aY _).trans rV
 obtain ⟨an,H⟩:=gK H
 obtain ⟨aN,H⟩:=gK H
 obtain rfl:=dF H
 have a9:0≤((ji):Int):=bF bG
 have aa:(ji) < (a5.length:Int):=bF bG
 obtain ⟨aQ,ag,ab⟩:=Kd.z_ (Kd.dN a6.out).2.2 (ji) a9 aa
 cases ag
 replace a9:=eq_true a9
 replace aa:=eq_true aa
 go_wp2
 go_ret
 exact ⟨NW,au⟩

def sZ.l0:Nat→ByteArray→List ByteArray→List (aF)→Int→Int→Option (List ByteArray)
 | 0,_,_,_,_,_=>none
 | k+1,x1,x5,a6,a7,a5=>if a5 < a7 then (if 0≤a5 then (if a5 < (a6.length:Int) then ((wX.f k ((aC a6 a5).f0)).bind fun a8=>(if a8.toList=x1.toList then ((DW.f k ((aC a6 a5).f0)).bind fun a9=>(if x5.length < 8796093022208 then (sZ.l0 k x1 (x5++[a9]) a6 a7 (wrap64 (a5+1))) else (none))) else (sZ.l0 k x1 x5 a6 a7 (wrap64 (a5+1))))) else (none)) else (none)) else (some x5)
def sZ.f (k:Nat) (a5:List (aF)) (a1:ByteArray):Option (List ByteArray):=if a1.toList=([]:List UInt8) then (some ([]:List ByteArray)) else (sZ.l0 k a1 (([]:List ByteArray)) a5 (a5.length:Int) 0)
theorem sZ.calls (k:Nat) (al:Option Addr) (ag:Nat) (aI:List (aF)) (a1:ByteArray) (r:List ByteArray) (w:World) (jV:iK w) (an:Kd.C aU w al aI.length aI) (ao:aI.length≤ag) (h:sZ.f k aI a1=some r) :
  Calls Tryz.prog 18 #[.agg #[.slice al aI.length ag],.string a1] w fun e w'=>∃ eP:Value,e=.returned (eP)∧Kd.R Kd.string 9 w' w.heap.size (fun _=>True) eP r∧Below w.heap.size w w':=by
 have mF:=underlying28
 have uf:=underlying43
 have lq:=m_ an
 have bc:=m_ ao
 clear an ao
 have HD:=m_ jV
 clear jV
 have HB:=m_ (Below.refl w.heap.size w)
 unfold sZ.f at h
 have H:=h
 clear h
 have bd:=m_ H
 clear H
 go_enter func18,ntmps18
 go_upto_if 9 with (first|((with_reducible refine dJ 2 ?_);refine dO 2 (cs:=#[.slice al aI.length ag]) 28 ?_;intro ai hg w4 hbox hb;obtain ⟨HB,a5,be,fA⟩:=kL au hb hbox hg;clear hb hbox hg))
 (try simp only [Act.put,List.setIfInBounds_toArray,List.set_cons_zero,List.set_cons_succ])
 obtain ⟨H⟩:=bd
 revert H;refine fH (fun c5 H=>?_) fun c5 H=>?_
 ·have ae:=fZ c5
  have ax:=f_ c5
  clear c5
  (first|rw [ae]|(simp only [aY,bf];rw [ae])|rw [show (a1.toList).isEmpty=true from by simpa using ae]|skip)
  obtain rfl:=dF H
  go_wp2
  go_ret
  exact ⟨_,bM,kD,au⟩
 have ae:=fP c5
 have ax:=fQ c5
 (first|rw [ae]|(simp only [aY,bf];rw [ae])|rw [show (a1.toList).isEmpty=false from by simpa using ae]|skip)
 obtain ⟨bH,aN⟩:∃ y_:List ByteArray,y_=(([]:List ByteArray)):=⟨_,rfl⟩
 rw [← aN] at H
 have ap:=m_ aN
 clear aN
 have H':=m_ H
 clear H
 go_wp2_with (first|((with_reducible refine dJ 10 ?_);refine Kd.sU Kd.string _ 9 ?hg (N:=10) ?hd (xs:=([]:List ByteArray)) (inner:=[]) (ok:=fun _=>True) (iJ:=fun _=>True) ?hr ?hp (fun _ hk=>hk) trivial (Below.refl _ _) (Nat.le_refl _) (by simp) ?_;(case hd=>rfl);(case hg=>rfl);(case hr=>first|(go_simp;done)|(go_simp;rfl));(case hp=>exact (bD.none _ _));intro azk w6 y7 hb iV iW;clear iV iW;(first|rw [← ap.out] at y7|(simp only [Int.reduceToNat] at y7;rw [← ap.out] at y7));obtain ⟨az,a5,HB⟩:=p_ (Kd.dI y7 (cZ au)) <| o_ (ak a5) au hb;clear hb y7;have AY:=dh a5.out))
 go_loopg [5,14] k (fun kq v5 v14 w'=>∃ (aK:List ByteArray) (a6:Int),v14=ah a6∧aA (sZ.l0 kq a1 aK aI (aI.length:Int) a6=some r)∧aA (kq≤k)∧aA (Kd.R Kd.string 9 w' w.heap.size (fun _=>True) v5 aK)∧aA (w'.heap[ai]?=some (.cells #[(.slice al aI.length ag)] 28))∧aA (Below w.heap.size w w'))
 case atStart=>exact ⟨(bH),(0),bg,H',⟨Nat.le_refl _⟩,⟨(aJ az)⟩,⟨(ak a5)⟩,⟨au⟩⟩
 case round =>
 clear H'
 try clear c5;try clear ae;try clear ax;try clear AY
 obtain ⟨aK,a6,rfl,HA,gZ,dn,a5,HB⟩:=hrel
 cases gk with
 | zero=>exact absurd HA.out (by simp [sZ.l0])
 | succ k1 =>
 obtain ⟨H⟩:=HA
 simp only [sZ.l0] at H
 revert H;refine gJ (fun b9 H=>?_) fun b9 H=>?_
 rotate_left
 ·obtain rfl:=dF H
  go_wp2
  go_ret
  exact ⟨_,bM,(aJ dn),au⟩
 obtain ⟨bh,H⟩:=gK H
 obtain ⟨bj,H⟩:=gK H
 obtain ⟨b0,bq,H⟩:=bd_ H
 have b1:=m_ H
 clear H
 have aW:0≤(a6:Int):=bF bG
 have av:a6 < (aI.length:Int):=bF bG
 obtain ⟨aq,ba,aa,ab,ac⟩:=kY lq.out a6 aW av
 cases ba
 replace aa:=iQ HB.out aa
 replace ab:=iQ HB.out ab
 replace ac:=iQ HB.out ac
 replace aW:=eq_true aW
 replace av:=eq_true av
 go_upto_if 22 with (first|((with_reducible refine dJ 7 ?_);refine dO 7 (cs:=#[.string (⟨#[]⟩:ByteArray),.bool false,.string (⟨#[]⟩:ByteArray)]) 43 ?_;intro ar hg bu hbox hb;obtain ⟨dn,a5,HB,a7,bl,bm,a8,a9⟩:=p_ (Kd.dw (aJ dn) hb) <| pq (ak a5) au hb hbox hg;clear hb hbox hg;obtain ⟨fB,bo⟩:=gB a9 a8;have bb:=uw a7.out)|((with_reducible refine bT 59 ?_);refine bU (some 20) rfl rfl func59 aB rfl #[.string ((aC aI a6).f0)] rfl aX ?_;(with_reducible refine (wX.calls k1 ((aC aI a6).f0) b0 _ (iK.below HD.out au) bq.out).mono ?_);rintro e bv ⟨rfl,hb⟩;refine ⟨_,rfl,?_⟩;have gy:=p_ (Kd.dw (by (with_reducible repeat (first|apply Kd.dB|apply Kd.dD|apply Kd.aZ));exact (Kd.bn (aH (aH (aH (Kd.bQ dn.out a7.out (by decide))))) (fun _ dG=>dG.1))) hb) <| p_ (bZ (g:=ai) (o:=.cells #[.slice (some aq) aI.length ag] 28) (nO a5.out a8.out) hb) <| p_ (bZ (g:=ar) (o:=.cells #[.string ((aC aI a6).f0),.bool ((aC aI a6).f1),.string ((aC aI a6).f2)] 43) (yB a7.out) hb) <| a_ (dP au hb);clear dn a5 a7 HB;obtain ⟨dn,a5,a7,HB⟩:=gy;(try clear hb);(try clear hk)))
 (try simp only [Act.put,List.setIfInBounds_toArray,List.set_cons_zero,List.set_cons_succ])
 (try clear bb)
 (try clear aa ab ac)
 obtain ⟨H⟩:=b1
 revert H;refine fH (fun aw H=>?_) fun aw H=>?_
 rotate_left
 ·have af:=fP aw
  have b2:=fQ aw
  try simp only [aY,bf,af]
  have H':=m_ H
  clear H
  go_wp2
  go_roundg k1
  case measure=>have:=gZ.out;omega
  case rel=>exact ⟨(aK),(wrap64 (a6+1)),bg,H',⟨ou⟩,⟨(aJ dn)⟩,⟨(ak a5)⟩,⟨au⟩⟩
 have af:=fZ aw
 have b2:=f_ aw
 clear aw
 try simp only [aY,bf,af]
 obtain ⟨am,br,H⟩:=bd_ H
 obtain ⟨bp,H⟩:=kV H
 have b3:=m_ bp
 clear bp
 obtain ⟨b4,aQ⟩:∃ y_:List ByteArray,y_=(aK++[am]):=⟨_,rfl⟩
 rw [← aQ] at H
 have b5:=m_ aQ
 clear aQ
 have H':=m_ H
 clear H
 obtain ⟨b6,b7⟩:=gB a9 a8
 have bs:=uw a7.out
 go_wp2_with (first|((with_reducible refine bT 62 ?_);refine bU (some 26) rfl rfl func62 aB rfl #[.string ((aC aI a6).f0)] rfl aX ?_;(with_reducible refine (DW.calls k1 ((aC aI a6).f0) am _ (iK.below HD.out au) br.out).mono ?_);rintro e bw ⟨rfl,hb⟩;refine ⟨_,rfl,?_⟩;obtain ⟨dn,a5,a7,HB⟩:=p_ (Kd.dw (aJ dn) hb) <| Ai (ak a5) (ak a7) au hb;(try clear hb))|((with_reducible refine xH (b:=.append) (xs:=#[.tmp 23,.tmp 27]) rfl ?_);at_builtin;refine Kd.CX Kd.string (w0:=w) w.heap.size rfl (.tmp 23) (.tmp 27) 38 9 (.string ⟨#[]⟩) 16 rfl underlying38 info9 rfl (by decide) (by omega) u5 aK am [.string am] (fun _=>True) (fun _=>False) rfl rfl ?sW (fun _ hk=>hk.elim) ?kT ?kG ?lu ?kH ?aL ?_;(case sW=>exact rfl);(case lu=>exact au);(case kT=>exact (fun _ _=>trivial));(case kG=>exact (aJ dn));(case kH=>exact (cZ au));(case aL=>have:=b3.out;omega);intro azl bx ho hb hg hat;rw [← b5.out] at ho;obtain ⟨a5,a7,HB,b8⟩:=p_ (iy (g:=ai) (o:=.cells #[.slice (some aq) aI.length ag] 28) (ak a5) hg (Kd.fV dn.out a5.out (by decide))) <| p_ (iy (g:=ar) (o:=.cells #[.string ((aC aI a6).f0),.bool ((aC aI a6).f1),.string ((aC aI a6).f2)] 43) (ak a7) hg (Kd.fV dn.out a7.out (by decide))) <| p_ (hb) <| a_ (ho);clear ho hb hg hat))
 go_roundg k1
 case measure=>have:=gZ.out;omega
 case rel=>exact ⟨(b4),(wrap64 (a6+1)),bg,H',⟨ou⟩,⟨(aJ b8)⟩,⟨(ak a5)⟩,⟨au⟩⟩

def Bz.f (a6:List (aF)) (a1:ByteArray):Option (Bool):=(ug.f a6 a1).bind fun a5=>(if a1.toList=([47]:List UInt8) then (some true) else (if a5 ≥ 0 then (if 0≤a5 then (if a5 < (a6.length:Int) then (some ((aC a6 a5).f1)) else (none)) else (none)) else (some false)))
theorem Bz.calls (a6:Option Addr) (a7:Nat) (aI:List (aF)) (a1:ByteArray) (r:Bool) (w:World) (ae:Kd.C aU w a6 aI.length aI) (af:aI.length≤a7) (h:Bz.f aI a1=some r) :
  Calls Tryz.prog 58 #[.agg #[.slice a6 aI.length a7],.string a1] w fun e w'=>e=.returned (.bool r)∧Below w.heap.size w w':=by
 have mF:=underlying28
 have lq:=m_ ae
 have ac:=m_ af
 clear ae af
 have HB:=m_ (Below.refl w.heap.size w)
 unfold Bz.f at h
 have H:=h
 clear h
 obtain ⟨a8,A3,H⟩:=bd_ H
 revert H;refine fH (fun c4 H=>?_) fun c4 H=>?_
 ·have al:=fZ c4
  have am:=f_ c4
  clear c4
  obtain rfl:=dF H
  go_enter func58,ntmps58
  go_wp2_with (first|((with_reducible refine dJ 2 ?_);refine dO 2 (cs:=#[.slice a6 aI.length a7]) 28 ?_;intro ag hg w5 hbox hb;obtain ⟨HB,a5,aK,ai⟩:=kL au hb hbox hg;clear hb hbox hg;have aaX:=dh a5.out)|((with_reducible refine bT 17 ?_);refine bU (some 8) rfl rfl func17 aB rfl #[.agg #[.slice a6 aI.length a7],.string a1] rfl aX ?_;(with_reducible refine (ug.calls _ _ aI a1 a8 _ pY ac.out A3.out).mono ?_);rintro e w7 ⟨rfl,hb⟩;refine ⟨_,rfl,?_⟩;obtain ⟨a5,HB⟩:=o_ (ak a5) au hb;(try clear hb)))
  go_ret
  exact ⟨bM,au⟩
 have al:=fP c4
 have am:=fQ c4
 revert H;refine gJ (fun an H=>?_) fun an H=>?_
 rotate_left
 ·obtain rfl:=dF H
  go_enter func58,ntmps58
  go_wp2_with (first|((with_reducible refine dJ 2 ?_);refine dO 2 (cs:=#[.slice a6 aI.length a7]) 28 ?_;intro ag hg av hbox hb;obtain ⟨HB,a5,aK,ai⟩:=kL au hb hbox hg;clear hb hbox hg;have Ol:=dh a5.out)|((with_reducible refine bT 17 ?_);refine bU (some 8) rfl rfl func17 aB rfl #[.agg #[.slice a6 aI.length a7],.string a1] rfl aX ?_;(with_reducible refine (ug.calls _ _ aI a1 a8 _ pY ac.out A3.out).mono ?_);rintro e aw ⟨rfl,hb⟩;refine ⟨_,rfl,?_⟩;obtain ⟨a5,HB⟩:=o_ (ak a5) au hb;(try clear hb)))
  go_ret
  exact ⟨bM,au⟩
 obtain ⟨aW,H⟩:=gK H
 obtain ⟨aq,H⟩:=gK H
 obtain rfl:=dF H
 go_enter func58,ntmps58
 go_wp2_with (first|((with_reducible refine dJ 2 ?_);refine dO 2 (cs:=#[.slice a6 aI.length a7]) 28 ?_;intro ag hg ax hbox hb;obtain ⟨HB,a5,aK,ai⟩:=kL au hb hbox hg;clear hb hbox hg;have zY:=dh a5.out)|((with_reducible refine bT 17 ?_);refine bU (some 8) rfl rfl func17 aB rfl #[.agg #[.slice a6 aI.length a7],.string a1] rfl aX ?_;(with_reducible refine (ug.calls _ _ aI a1 a8 _ pY ac.out A3.out).mono ?_);rintro e bH ⟨rfl,hb⟩;refine ⟨_,rfl,?_⟩;obtain ⟨a5,HB⟩:=o_ (ak a5) au hb;(try clear hb);have Kr:=dh a5.out;have aN:0≤(a8:Int):=bF bG;have aQ:a8 < (aI.length:Int):=bF bG;obtain ⟨ar,ao,a9,aa,ab⟩:=kY lq.out a8 aN aQ;cases ao;replace a9:=iQ HB.out a9;replace aa:=iQ HB.out aa;replace ab:=iQ HB.out ab;replace aN:=eq_true aN;replace aQ:=eq_true aQ))
 go_ret
 exact ⟨bM,au⟩

def xO.f (k:Nat) (a5:List (aF)) (a1:ByteArray):Option (Int):=(lS.f k a1).bind fun a6=>(if a6.2=0 then (if a1.toList=([47]:List UInt8) then (some 6) else ((wX.f k a1).bind fun a7=>((oH.f k a5 a7).bind fun a8=>(if a8=0 then ((Bz.f a5 a7).bind fun a9=>(if a9=true then ((ug.f a5 a1).bind fun aa=>(if aa ≥ 0 then (some 6) else ((sZ.f k a5 a7).bind fun ab=>(if (ab.length:Int) ≥ 6 then (some 7) else (some 0))))) else (some 4))) else (some a8))))) else (some a6.2))
theorem xO.calls (k:Nat) (aa:Option Addr) (ab:Nat) (aI:List (aF)) (a1:ByteArray) (r:Int) (w:World) (jV:iK w) (aK:Kd.C aU w aa aI.length aI) (ai:aI.length≤ab) (h:xO.f k aI a1=some r) :
  Calls Tryz.prog 24 #[.agg #[.slice aa aI.length ab],.string a1] w fun e w'=>e=.returned (ah r)∧Below w.heap.size w w':=by
 have mF:=underlying28
 have lq:=m_ aK
 have ae:=m_ ai
 clear aK ai
 have HD:=m_ jV
 clear jV
 have HB:=m_ (Below.refl w.heap.size w)
 unfold xO.f at h
 have H:=h
 clear h
 obtain ⟨⟨b0,am⟩,A3,H⟩:=bd_ H
 have b5:=m_ H
 clear H
 go_enter func24,ntmps24
 go_upto_if 15 with (first|((with_reducible refine dJ 2 ?_);refine dO 2 (cs:=#[.slice aa aI.length ab]) 28 ?_;intro b6 hg w5 hbox hb;obtain ⟨HB,a5,b7,b8⟩:=kL au hb hbox hg;clear hb hbox hg)|((with_reducible refine bT 57 ?_);refine bU (some 11) rfl rfl func57 aB rfl #[.string a1] rfl aX ?_;(with_reducible refine (lS.calls k a1 b0 am _ (iK.below HD.out au) A3.out).mono ?_);rintro e w6 ⟨azm,rfl,ho0,hb⟩;refine ⟨_,rfl,?_⟩;obtain ⟨a6,a5,HB⟩:=p_ (Kd.dI ho0 (cZ au)) <| o_ (ak a5) au hb;(try clear hb);(try clear ho0)))
 (try simp only [Act.put,List.setIfInBounds_toArray,List.set_cons_zero,List.set_cons_succ])
 obtain ⟨H⟩:=b5
 revert H;refine fH (fun c7 H=>?_) fun c7 H=>?_
 rotate_left
 ·have af:=fP c7
  have b1:=fQ c7
  try simp only [aY,bf,af]
  obtain rfl:=dF H
  go_wp2
  go_ret
  exact ⟨bM,au⟩
 have af:=fZ c7
 have b1:=f_ c7
 clear c7
 try simp only [aY,bf,af]
 revert H;refine fH (fun c8 H=>?_) fun c8 H=>?_
 ·have b2:=fZ c8
  have b3:=f_ c8
  clear c8
  obtain rfl:=dF H
  go_wp2
  go_ret
  exact ⟨bM,au⟩
 have b2:=fP c8
 have b3:=fQ c8
 obtain ⟨ac,A9,H⟩:=bd_ H
 obtain ⟨an,b9,H⟩:=bd_ H
 have ao:=m_ H
 clear H
 go_upto_if 25 with (first|((with_reducible refine bT 59 ?_);refine bU (some 20) rfl rfl func59 aB rfl #[.string a1] rfl aX ?_;(with_reducible refine (wX.calls k a1 ac _ (iK.below HD.out au) A9.out).mono ?_);rintro e fA ⟨rfl,hb⟩;refine ⟨_,rfl,?_⟩;obtain ⟨a6,a5,HB⟩:=p_ (Kd.dw (aJ a6) hb) <| o_ (ak a5) au hb;(try clear hb);have Ce:=dh a5.out)|((with_reducible refine bT 25 ?_);refine bU (some 23) rfl rfl func25 aB rfl #[.agg #[.slice aa aI.length ab],.string ac] rfl aX ?_;(with_reducible refine (oH.calls k _ _ aI ac an _ (iK.below HD.out au) pY ae.out b9.out).mono ?_);rintro e dM ⟨rfl,hb⟩;refine ⟨_,rfl,?_⟩;obtain ⟨a6,a5,HB⟩:=p_ (Kd.dw (aJ a6) hb) <| o_ (ak a5) au hb;(try clear hb)))
 (try simp only [Act.put,List.setIfInBounds_toArray,List.set_cons_zero,List.set_cons_succ])
 (try clear Ce)
 obtain ⟨H⟩:=ao
 revert H;refine fH (fun aN H=>?_) fun aN H=>?_
 rotate_left
 ·have a7:=fP aN
  have ap:=fQ aN
  try simp only [aY,bf,a7]
  obtain rfl:=dF H
  go_wp2
  go_ret
  exact ⟨bM,au⟩
 have a7:=fZ aN
 have ap:=f_ aN
 clear aN
 try simp only [aY,bf,a7]
 obtain ⟨aq,ba,H⟩:=bd_ H
 have ar:=m_ H
 clear H
 have Io:=dh a5.out
 go_upto_if 27 with (first|((with_reducible refine bT 58 ?_);refine bU (some 30) rfl rfl func58 aB rfl #[.agg #[.slice aa aI.length ab],.string ac] rfl aX ?_;(with_reducible refine (Bz.calls _ _ aI ac aq _ pY ae.out ba.out).mono ?_);rintro e bh ⟨rfl,hb⟩;refine ⟨_,rfl,?_⟩;obtain ⟨a6,a5,HB⟩:=p_ (Kd.dw (aJ a6) hb) <| o_ (ak a5) au hb;(try clear hb)))
 (try simp only [Act.put,List.setIfInBounds_toArray,List.set_cons_zero,List.set_cons_succ])
 (try clear Io)
 obtain ⟨H⟩:=ar
 by_cases az:aq=true
 rotate_left
 ·replace az:=Bool.eq_false_iff.mpr az
  subst az
  rw [if_neg iI] at H
  obtain rfl:=dF H
  go_wp2
  go_ret
  exact ⟨bM,au⟩
 subst az
 rw [if_pos rfl] at H
 obtain ⟨aW,bb,H⟩:=bd_ H
 have av:=m_ H
 clear H
 have Oo:=dh a5.out
 go_upto_if 32 with (first|((with_reducible refine bT 17 ?_);refine bU (some 35) rfl rfl func17 aB rfl #[.agg #[.slice aa aI.length ab],.string a1] rfl aX ?_;(with_reducible refine (ug.calls _ _ aI a1 aW _ pY ae.out bb.out).mono ?_);rintro e bi ⟨rfl,hb⟩;refine ⟨_,rfl,?_⟩;obtain ⟨a6,a5,HB⟩:=p_ (Kd.dw (aJ a6) hb) <| o_ (ak a5) au hb;(try clear hb)))
 (try simp only [Act.put,List.setIfInBounds_toArray,List.set_cons_zero,List.set_cons_succ])
 (try clear Oo)
 obtain ⟨H⟩:=av
 revert H;refine gJ (fun a8 H=>?_) fun a8 H=>?_
 ·try simp only [aY,bf,a8]
  obtain rfl:=dF H
  go_wp2
  go_ret
  exact ⟨bM,au⟩
 try simp only [aY,bf,a8]
 obtain ⟨ag,bc,H⟩:=bd_ H
 have aw:=m_ H
 clear H
 have Kt:=dh a5.out
 go_upto_if 37 with (first|((with_reducible refine bT 18 ?_);refine bU (some 40) rfl rfl func18 aB rfl #[.agg #[.slice aa aI.length ab],.string ac] rfl aX ?_;(with_reducible refine (sZ.calls k _ _ aI ac ag _ (iK.below HD.out au) pY ae.out bc.out).mono ?_);rintro e bj ⟨azn,rfl,ho0,hb⟩;refine ⟨_,rfl,?_⟩;obtain ⟨a6,ax,a5,HB⟩:=p_ (Kd.jX (aJ a6) (Kd.jo ho0) hb) <| p_ (Kd.dI (Kd.jY ho0 (Kd.jJ (aJ a6))) (cZ au)) <| o_ (ak a5) au hb;(try clear hb);(try clear ho0);obtain ⟨bd,be,b4⟩:=Kd.dK ax.out;subst b4))
 (try simp only [Act.put,List.setIfInBounds_toArray,List.set_cons_zero,List.set_cons_succ])
 (try clear Kt)
 obtain ⟨H⟩:=aw
 revert H;refine fH (fun al H=>?_) fun al H=>?_
 ·have a9:=mM al
  have bH:decide (6≤ag.length)=true:=mM (by omega)
  clear al
  try simp only [aY,bf,a9]
  obtain rfl:=dF H
  go_wp2
  go_ret
  exact ⟨bM,au⟩
 have a9:=vX al
 have bH:decide (6≤ag.length)=false:=vX (by omega)
 clear al
 try simp only [aY,bf,a9]
 obtain rfl:=dF H
 go_wp2
 go_ret
 exact ⟨bM,au⟩

def JE.f (k:Nat) (ai:Int) (aN:Int) (a9:Int) (aQ:Int) (a5:List (aF)) (a7:Int) (a6:ByteArray) (al:ByteArray) (am:Int) (an:Int) (ae:ByteArray) (af:ByteArray) (ag:Bool) (aK:ByteArray):Option ((List (aF)) × Int × ByteArray × Int × Bool × List ByteArray):=(xO.f k a5 a6).bind fun a8=>(if a8=0 then (if (wrap64 ((a5.length:Int)+1)) ≥ a9 then ((Au.f a5 a6 (a7 == 2) (⟨#[]⟩:ByteArray)).bind fun aa=>(some (aa,8,(⟨#[]⟩:ByteArray),0,false,([]:List ByteArray)))) else ((Au.f a5 a6 (a7 == 2) (⟨#[]⟩:ByteArray)).bind fun ab=>(some (ab,a8,(⟨#[]⟩:ByteArray),0,false,([]:List ByteArray))))) else ((Au.f a5 a6 (a7 == 2) (⟨#[]⟩:ByteArray)).bind fun ac=>(some (ac,a8,(⟨#[]⟩:ByteArray),0,false,([]:List ByteArray)))))
theorem JE.calls (k:Nat) (az:Int) (b0:Int) (ax:Int) (b1:Int) (eu:Option Addr) (d_:Nat) (bW:List (aF)) (aQ:Int) (af:ByteArray) (b2:ByteArray) (b3:Int) (b4:Int) (ap:ByteArray) (aq:ByteArray) (ar:Bool) (aW:ByteArray) (r1:List (aF)) (r2:Int) (r3:ByteArray) (r4:Int) (r5:Bool) (r6:List ByteArray) (w:World) (jV:iK w) (b5:Kd.C aU w eu bW.length bW) (b6:bW.length≤d_) (h:JE.f k az b0 ax b1 bW aQ af b2 b3 b4 ap aq ar aW=some (r1,r2,r3,r4,r5,r6)) :
  Calls Tryz.prog 115 #[.agg #[ah az,ah b0,ah ax,ah b1,.slice eu bW.length d_,ah aQ,.string af,.string b2,ah b3,ah b4,.string ap,.string aq,.bool ar,.string aW]] w fun e w'=>∃ eP lY:Value,e=.returned (.tuple #[.agg #[eP],.agg #[ah r2,.string r3,ah r4,.bool r5,lY]])∧Kd.R aU 43 w' w.heap.size (fun _=>True) eP r1∧Kd.R Kd.string 9 w' w.heap.size (fun _=>True) lY r6∧Below w.heap.size w w':=by
 have DT:=underlying90
 have mF:=underlying28
 have xM:=underlying49
 have uf:=underlying43
 have OU:=m_ b5
 have al:=m_ b6
 clear b5 b6
 have HD:=m_ jV
 clear jV
 have HB:=m_ (Below.refl w.heap.size w)
 unfold JE.f at h
 have H:=h
 clear h
 obtain ⟨bH,A2,H⟩:=bd_ H
 revert H;refine fH (fun c3 H=>?_) fun c3 H=>?_
 rotate_left
 ·have bm:=fP c3
  have fB:=fQ c3
  obtain ⟨bb,cd,H⟩:=bd_ H
  simp only [Option.some.injEq,Prod.mk.injEq] at H
  obtain ⟨rfl,rfl,rfl,rfl,rfl,rfl⟩:=H
  go_enter func115,ntmps115
  go_wp2_with (first|((with_reducible refine dJ 1 ?_);(try (refine qL (by rfl) ?_;dsimp only));refine dO 1 (cs:=#[ah az,ah b0,ah ax,ah b1,.slice eu bW.length d_,ah aQ,.string af,.string b2,ah b3,ah b4,.string ap,.string aq,.bool ar,.string aW]) 90 ?_;intro bc hg cj hbox hb;obtain ⟨HB,a5,bd,be⟩:=kL au hb hbox hg;clear hb hbox hg)|((with_reducible refine dJ 2 ?_);(try (refine qL (by rfl) ?_;dsimp only));refine dO 2 (cs:=#[.slice none 0 0]) 28 ?_;intro av hg ck hbox hb;obtain ⟨a5,HB,a6,fA,dM,a8,a9⟩:=pq (ak a5) au hb hbox hg;clear hb hbox hg)|((with_reducible refine dJ 3 ?_);(try (refine qL (by rfl) ?_;dsimp only));refine dO 3 (cs:=#[ah 0,.string (⟨#[]⟩:ByteArray),ah 0,.bool false,.slice none 0 0]) 49 ?_;intro aw hg cl hbox hb;obtain ⟨a5,a6,HB,a7,bh,bi,aa,ab,ac,ae⟩:=pU (ak a5) (ak a6) au hb hbox hg;clear hb hbox hg;obtain ⟨ai,aN,ag,aK⟩:=g_ a8 a9 aa ab;obtain ⟨LK,LM,LW,LX,LY,LZ,L6,L8,L9,L_,LP,LQ,LU,LV⟩:=iq a5.out;obtain ⟨Mc,Md,MG,MH,MI,MJ,MK,ML,MN,MO,Me,MB,MC,MF⟩:=jA a5.out)|((with_reducible refine bT 24 ?_);refine bU (some 10) rfl rfl func24 aB rfl #[.agg #[.slice eu bW.length d_],.string af] rfl aX ?_;(with_reducible refine (xO.calls k _ _ bW af bH _ (iK.below HD.out au) vN al.out A2.out).mono ?_);rintro e cm ⟨rfl,hb⟩;refine ⟨_,rfl,?_⟩;obtain ⟨a5,a6,a7,HB⟩:=lD (ak a5) (ak a6) (ak a7) au hb;(try clear hb);obtain ⟨Qr,Qs,Qy,Qz,QA,QB,QC,QD,QE,QF,Qu,Qv,Qw,Qx⟩:=iq a5.out;obtain ⟨Rn,Ro,Rx,Ry,Rz,RD,RF,RG,RH,RI,Rq,Rt,Ru,Rw⟩:=jA a5.out)|((with_reducible refine bT 21 ?_);refine bU (some 34) rfl rfl func21 aB rfl #[.agg #[.slice eu bW.length d_],.agg #[.string af,.bool (aQ == 2),.string (⟨#[]⟩:ByteArray)]] rfl aX ?_;(with_reducible refine (Au.calls _ _ bW af (aQ == 2) (⟨#[]⟩:ByteArray) bb _ vN al.out cd.out).mono ?_);rintro e cn ⟨azq,rfl,ho0,hb⟩;refine ⟨_,rfl,?_⟩;obtain ⟨b7,a5,a6,a7,HB⟩:=p_ (Kd.dI ho0 (cZ au)) <| lD (ak a5) (ak a6) (ak a7) au hb;(try clear hb);(try clear ho0);obtain ⟨bo,bp,bq⟩:=Kd.dK b7.out;subst bq;obtain ⟨am,an⟩:=gB ac ae;have ak9:=dh a6.out;have ce:=kK a7.out))
  refine bodyPost_ret (iR rfl _ _ av aw 28 49 #[.slice bo bb.length bp] #[ah bH,.string (⟨#[]⟩:ByteArray),ah 0,.bool false,.slice none 0 0] (0,0) (0,0) _ _ rfl aT underlying28 rfl aB rfl aT underlying49 rfl aB) rfl ?_
  exact ⟨_,_,bM,(by (with_reducible repeat (first|apply Kd.dB|apply Kd.dD|apply Kd.aZ));exact Kd.bn (aH (aH (aH (aH (aH (aH (Kd.bQ (Kd.bQ b7.out a6.out (by decide)) a7.out (by decide)) (fun _ hk=>hk.1.2))))))) (fun _ hk=>trivial)),kD,au⟩
 have bm:=fZ c3
 have fB:=f_ c3
 clear c3
 have bz:=m_ H
 clear H
 go_enter func115,ntmps115
 go_upto_if 23 with (first|((with_reducible refine dJ 1 ?_);(try (refine qL (by rfl) ?_;dsimp only));refine dO 1 (cs:=#[ah az,ah b0,ah ax,ah b1,.slice eu bW.length d_,ah aQ,.string af,.string b2,ah b3,ah b4,.string ap,.string aq,.bool ar,.string aW]) 90 ?_;intro bc hg w5 hbox hb;obtain ⟨HB,a5,bd,be⟩:=kL au hb hbox hg;clear hb hbox hg)|((with_reducible refine dJ 2 ?_);(try (refine qL (by rfl) ?_;dsimp only));refine dO 2 (cs:=#[.slice none 0 0]) 28 ?_;intro av hg w6 hbox hb;obtain ⟨a5,HB,a6,fA,dM,a8,a9⟩:=pq (ak a5) au hb hbox hg;clear hb hbox hg)|((with_reducible refine dJ 3 ?_);(try (refine qL (by rfl) ?_;dsimp only));refine dO 3 (cs:=#[ah 0,.string (⟨#[]⟩:ByteArray),ah 0,.bool false,.slice none 0 0]) 49 ?_;intro aw hg w7 hbox hb;obtain ⟨a5,a6,HB,a7,bh,bi,aa,ab,ac,ae⟩:=pU (ak a5) (ak a6) au hb hbox hg;clear hb hbox hg;obtain ⟨ai,aN,ag,aK⟩:=g_ a8 a9 aa ab;obtain ⟨adC,adD,adI,adJ,adK,adL,adM,adN,adO,adP,adE,adF,adG,adH⟩:=iq a5.out;obtain ⟨agj,agk,agq,agr,ags,agt,agu,agv,agw,agx,agl,agm,agn,agp⟩:=jA a5.out)|((with_reducible refine bT 24 ?_);refine bU (some 10) rfl rfl func24 aB rfl #[.agg #[.slice eu bW.length d_],.string af] rfl aX ?_;(with_reducible refine (xO.calls k _ _ bW af bH _ (iK.below HD.out au) vN al.out A2.out).mono ?_);rintro e co ⟨rfl,hb⟩;refine ⟨_,rfl,?_⟩;obtain ⟨a5,a6,a7,HB⟩:=lD (ak a5) (ak a6) (ak a7) au hb;(try clear hb);obtain ⟨E8,E9,Fg,Fh,Fj,Fp,Fq,Fv,Fz,FB,E_,Fa,Fb,Fe⟩:=iq a5.out;obtain ⟨FZ,F5,Gf,Gg,Gh,Gi,Gj,Gl,Gm,Gn,F6,F7,F8,F9⟩:=jA a5.out))
 (try simp only [Act.put,List.setIfInBounds_toArray,List.set_cons_zero,List.set_cons_succ])
 (try clear ai ag aN aK)
 (try clear adC adD adE adF adG adH adI adJ adK adL adM adN adO adP)
 (try clear E8 E9 E_ Fa Fb Fe Fg Fh Fj Fp Fq Fv Fz FB)
 (try clear agj agk agl agm agn agp agq agr ags agt agu agv agw agx)
 (try clear FZ F5 F6 F7 F8 F9 Gf Gg Gh Gi Gj Gl Gm Gn)
 obtain ⟨H⟩:=bz
 revert H;refine gJ (fun ao H=>?_) fun ao H=>?_
 ·try simp only [aY,bf,ao]
  obtain ⟨bj,cf,H⟩:=bd_ H
  simp only [Option.some.injEq,Prod.mk.injEq] at H
  obtain ⟨rfl,rfl,rfl,rfl,rfl,rfl⟩:=H
  obtain ⟨ca,cc,ag,aK⟩:=g_ a8 a9 aa ab
  obtain ⟨XJ,XK,XQ,XR,XT,XU,XV,XW,XY,XZ,XL,XM,XO,XP⟩:=iq a5.out
  obtain ⟨Yh,Yi,Yn,Yo,Yp,Yq,Yr,Yt,Yu,Yv,Yj,Yk,Yl,Ym⟩:=jA a5.out
  go_wp2_with (first|((with_reducible refine bT 21 ?_);refine bU (some 34) rfl rfl func21 aB rfl #[.agg #[.slice eu bW.length d_],.agg #[.string af,.bool (aQ == 2),.string (⟨#[]⟩:ByteArray)]] rfl aX ?_;(with_reducible refine (Au.calls _ _ bW af (aQ == 2) (⟨#[]⟩:ByteArray) bj _ vN al.out cf.out).mono ?_);rintro e cp ⟨azo,rfl,ho0,hb⟩;refine ⟨_,rfl,?_⟩;obtain ⟨b8,a5,a6,a7,HB⟩:=p_ (Kd.dI ho0 (cZ au)) <| lD (ak a5) (ak a6) (ak a7) au hb;(try clear hb);(try clear ho0);obtain ⟨br,bs,bu⟩:=Kd.dK b8.out;subst bu;obtain ⟨am,an⟩:=gB ac ae;have Om:=dh a6.out;have cg:=kK a7.out))
  refine bodyPost_ret (iR rfl _ _ av aw 28 49 #[.slice br bj.length bs] #[ah 8,.string (⟨#[]⟩:ByteArray),ah 0,.bool false,.slice none 0 0] (0,0) (0,0) _ _ rfl aT underlying28 rfl aB rfl aT underlying49 rfl aB) rfl ?_
  exact ⟨_,_,bM,(by (with_reducible repeat (first|apply Kd.dB|apply Kd.dD|apply Kd.aZ));exact Kd.bn (aH (aH (aH (aH (aH (aH (Kd.bQ (Kd.bQ b8.out a6.out (by decide)) a7.out (by decide)) (fun _ hk=>hk.1.2))))))) (fun _ hk=>trivial)),kD,au⟩
 try simp only [aY,bf,ao]
 obtain ⟨bl,ch,H⟩:=bd_ H
 simp only [Option.some.injEq,Prod.mk.injEq] at H
 obtain ⟨rfl,rfl,rfl,rfl,rfl,rfl⟩:=H
 obtain ⟨ai,aN,ag,aK⟩:=g_ a8 a9 aa ab
 obtain ⟨FC,FD,FN,FP,FQ,FT,FU,FV,FW,FX,FH,FI,FK,FM⟩:=iq a5.out
 obtain ⟨Gp,Gq,Gw,Gx,Gy,Gz,GH,GI,GK,GL,Gs,Gt,Gu,Gv⟩:=jA a5.out
 go_wp2_with (first|((with_reducible refine bT 21 ?_);refine bU (some 34) rfl rfl func21 aB rfl #[.agg #[.slice eu bW.length d_],.agg #[.string af,.bool (aQ == 2),.string (⟨#[]⟩:ByteArray)]] rfl aX ?_;(with_reducible refine (Au.calls _ _ bW af (aQ == 2) (⟨#[]⟩:ByteArray) bl _ vN al.out ch.out).mono ?_);rintro e cq ⟨azp,rfl,ho0,hb⟩;refine ⟨_,rfl,?_⟩;obtain ⟨b9,a5,a6,a7,HB⟩:=p_ (Kd.dI ho0 (cZ au)) <| lD (ak a5) (ak a6) (ak a7) au hb;(try clear hb);(try clear ho0);obtain ⟨bv,bw,bx⟩:=Kd.dK b9.out;subst bx;obtain ⟨am,an⟩:=gB ac ae;have Ku:=dh a6.out;have ci:=kK a7.out))
 refine bodyPost_ret (iR rfl _ _ av aw 28 49 #[.slice bv bl.length bw] #[ah bH,.string (⟨#[]⟩:ByteArray),ah 0,.bool false,.slice none 0 0] (0,0) (0,0) _ _ rfl aT underlying28 rfl aB rfl aT underlying49 rfl aB) rfl ?_
 exact ⟨_,_,bM,(by (with_reducible repeat (first|apply Kd.dB|apply Kd.dD|apply Kd.aZ));exact Kd.bn (aH (aH (aH (aH (aH (aH (Kd.bQ (Kd.bQ b9.out a6.out (by decide)) a7.out (by decide)) (fun _ hk=>hk.1.2))))))) (fun _ hk=>trivial)),kD,au⟩

end Go.Proofs.YthejdhjpbpamoaaGreatDoor.jD
