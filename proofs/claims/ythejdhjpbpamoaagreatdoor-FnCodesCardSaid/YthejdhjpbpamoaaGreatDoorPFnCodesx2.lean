/- Contracts of Go functions: each call returns what the Lean function beside it computes. Conditions: as each theorem states them. -/
import Derived.Test.YthejdhjpbpamoaaGreatDoorPkFnCodes
import Derived.Test.YthejdhjpbpamoaaGreatDoorPFnCodesx1
namespace Go.Proofs.YthejdhjpbpamoaaGreatDoor.jD
open Go.RowKit Go.Proofs.YthejdhjpbpamoaaGreatDoorW.iw Go.Proofs.YthejdhjpbpamoaaGreatDoorW.lH Go.Proofs.YthejdhjpbpamoaaGreatDoorW.oO Go.Proofs.Tryz
attribute [local go_sem] qw qB qA qF qy qE qx qC   -- for this text's walks alone
set_option linter.unusedVariables false
set_option maxHeartbeats 8000000
set_option maxRecDepth 100000
set_option linter.unusedSimpArgs false

def wI.f (k:Nat) (a0:ByteArray):Option (ByteArray):=(jk.f k a0).bind fun a5=>(if a5.2=0 then (if (a5.1.length:Int)=0 then (some (⟨#[]⟩:ByteArray)) else (if 0≤(wrap64 ((a5.1.length:Int) - 1)) then (if (wrap64 ((a5.1.length:Int) - 1))≤(a5.1.length:Int) then ((uD.f k (a5.1.take ((wrap64 ((a5.1.length:Int) - 1)):Int).toNat)).bind fun a6=>(some a6)) else (none)) else (none))) else (some (⟨#[]⟩:ByteArray)))
theorem wI.calls (k:Nat) (a0:ByteArray) (r:ByteArray) (w:World) (h:wI.f k a0=some r) :
  Calls Tryz.prog 51 #[.string a0] w fun e w'=>e=.returned (.string r)∧Below w.heap.size w w':=by
 have HB:=m_ (Below.refl w.heap.size w)
 unfold wI.f at h
 have H:=h
 clear h
 obtain ⟨⟨a5,ae⟩,A2,H⟩:=bd_ H
 revert H;refine fH (fun c3 H=>?_) fun c3 H=>?_
 rotate_left
 ·have ai:=fP c3
  have aN:=fQ c3
  obtain rfl:=dF H
  go_enter func51,ntmps51
  go_wp2_with (first|((with_reducible refine bT 53 ?_);refine bU (some 7) rfl rfl func53 aB rfl #[.string a0] rfl aX ?_;(with_reducible refine (jk.calls k a0 a5 ae _ A2.out).mono ?_);rintro e bH ⟨akI,rfl,ho0,hb⟩;refine ⟨_,rfl,?_⟩;obtain ⟨a6,HB⟩:=p_ (Kd.dI ho0 (cZ au)) <| a_ (dP au hb);(try clear hb);(try clear ho0)))
  go_ret
  exact ⟨bM,au⟩
 have ai:=fZ c3
 have aN:=f_ c3
 clear c3
 have ao:=m_ H
 clear H
 go_enter func51,ntmps51
 go_upto_if 16 with (first|((with_reducible refine bT 53 ?_);refine bU (some 7) rfl rfl func53 aB rfl #[.string a0] rfl aX ?_;(with_reducible refine (jk.calls k a0 a5 ae _ A2.out).mono ?_);rintro e w5 ⟨akI,rfl,ho0,hb⟩;refine ⟨_,rfl,?_⟩;obtain ⟨a6,HB⟩:=p_ (Kd.dI ho0 (cZ au)) <| a_ (dP au hb);(try clear hb);(try clear ho0);obtain ⟨aQ,aK,ar⟩:=Kd.dK a6.out;subst ar))
 (try simp only [Act.put,List.setIfInBounds_toArray,List.set_cons_zero,List.set_cons_succ])
 obtain ⟨H⟩:=ao
 revert H;refine fH (fun c7 H=>?_) fun c7 H=>?_
 ·have a7:=fZ c7
  have al:=f_ c7
  clear c7
  try simp only [aY,bf,a7]
  obtain rfl:=dF H
  go_wp2
  go_ret
  exact ⟨bM,au⟩
 have a7:=fP c7
 have al:=fQ c7
 have aW:¬ (a5=[]):=fun dG=>c7 (by rw [dG];rfl)
 try simp only [aY,bf,a7]
 obtain ⟨ji,rV⟩:∃ lU:Int,(wrap64 ((a5.length:Int) - 1))=lU:=⟨_,rfl⟩
 replace H:(if 0≤(ji) then (if (ji)≤(a5.length:Int) then ((uD.f k (a5.take ((ji):Int).toNat)).bind fun a8=>(some a8)) else (none)) else (none))=some r:=by first|(rw [rV] at H;exact H)|(simp only [rV] at H ⊢;exact H)
 have MV:(IntKind.i64.wrap ((a5.length:Int) - 1))=ji:=(aY _).trans rV
 obtain ⟨av,aw,H⟩:=jE H
 obtain ⟨ap,aq,H⟩:=jE H
 obtain ⟨a9,aa⟩:∃ y_:List ByteArray,y_=(a5.take ((ji):Int).toNat):=⟨_,rfl⟩
 rw [← aa] at H
 have ab:=m_ aa
 clear aa
 obtain ⟨a8,ax,H⟩:=bd_ H
 obtain rfl:=dF H
 have an:((ji):Int)≤((a5.length:Int):Int):=bF bG
 obtain ⟨aiX,Jc,_,Tf,_⟩:=info_parts info9
 have Jy:a5.length≤aK:=(Kd.dN a6.out).2.1
 have Jb:Kd.C Kd.string _ aQ a5.length a5:=(Kd.dN a6.out).2.2
 have Qq:=Dl (P:=Tryz.prog) 38 9 .i64 underlying38 Jc aQ a5.length aK (ji) (bF bG) an Jy
 have DN:=Kd.xu (m:=((ji):Int).toNat) Jb (by omega)
 have af:a9.length=((ji):Int).toNat:=(by rw [ab.out,List.length_take];omega)
 rw [← ab.out] at DN
 rw [← af] at Qq
 have ac:=m_ DN
 have ag:=m_ (show a9.length≤aK from by omega)
 clear DN Jb Jy Jc Tf
 have abE:=m_ af
 clear af
 have abB:=m_ (show ((ji):Int).toNat≤a5.length from by omega)
 replace an:=eq_true an
 go_wp2_with (first|((with_reducible refine bT 71 ?_);refine bU (some 22) rfl rfl func71 aB rfl #[.slice aQ a9.length aK] rfl aX ?_;(with_reducible refine (uD.calls k _ _ a9 a8 _ ?kX ag.out ax.out).mono ?_);(case kX=>repeat (first|exact (by repeat (first|(with_reducible exact ac.out)|(with_reducible refine Kd.jO ?_ _)|(with_reducible refine Kd.jT ?_ _)|(with_reducible refine Kd.jS ?_)|exact ac.out))|(with_reducible refine Kd.jO ?_ _)|(with_reducible refine Kd.jT ?_ _)|(with_reducible refine Kd.jS ?_)));rintro e w' ⟨rfl,⟨nd,rfl⟩⟩;refine ⟨_,rfl,?_⟩))
 go_ret
 exact ⟨NW,au⟩

def Ef.f (k:Nat) (a0:ByteArray):Option (ByteArray):=(jk.f k a0).bind fun a5=>(if a5.2=0 then (if (a5.1.length:Int)=0 then (some (⟨#[]⟩:ByteArray)) else (if 0≤(wrap64 ((a5.1.length:Int) - 1)) then (if (wrap64 ((a5.1.length:Int) - 1)) < (a5.1.length:Int) then (some (rZ ByteArray.empty a5.1 (wrap64 ((a5.1.length:Int) - 1)))) else (none)) else (none))) else (some (⟨#[]⟩:ByteArray)))
theorem Ef.calls (k:Nat) (a0:ByteArray) (r:ByteArray) (w:World) (h:Ef.f k a0=some r) :
  Calls Tryz.prog 63 #[.string a0] w fun e w'=>e=.returned (.string r)∧Below w.heap.size w w':=by
 have HB:=m_ (Below.refl w.heap.size w)
 unfold Ef.f at h
 have H:=h
 clear h
 obtain ⟨⟨a5,a8⟩,A2,H⟩:=bd_ H
 revert H;refine fH (fun c3 H=>?_) fun c3 H=>?_
 rotate_left
 ·have ac:=fP c3
  have ae:=fQ c3
  obtain rfl:=dF H
  go_enter func63,ntmps63
  go_wp2_with (first|((with_reducible refine bT 53 ?_);refine bU (some 7) rfl rfl func53 aB rfl #[.string a0] rfl aX ?_;(with_reducible refine (jk.calls k a0 a5 a8 _ A2.out).mono ?_);rintro e ao ⟨akJ,rfl,ho0,hb⟩;refine ⟨_,rfl,?_⟩;obtain ⟨a6,HB⟩:=p_ (Kd.dI ho0 (cZ au)) <| a_ (dP au hb);(try clear hb);(try clear ho0)))
  go_ret
  exact ⟨bM,au⟩
 have ac:=fZ c3
 have ae:=f_ c3
 clear c3
 have aK:=m_ H
 clear H
 go_enter func63,ntmps63
 go_upto_if 16 with (first|((with_reducible refine bT 53 ?_);refine bU (some 7) rfl rfl func53 aB rfl #[.string a0] rfl aX ?_;(with_reducible refine (jk.calls k a0 a5 a8 _ A2.out).mono ?_);rintro e w5 ⟨akJ,rfl,ho0,hb⟩;refine ⟨_,rfl,?_⟩;obtain ⟨a6,HB⟩:=p_ (Kd.dI ho0 (cZ au)) <| a_ (dP au hb);(try clear hb);(try clear ho0);obtain ⟨ap,aq,al⟩:=Kd.dK a6.out;subst al))
 (try simp only [Act.put,List.setIfInBounds_toArray,List.set_cons_zero,List.set_cons_succ])
 obtain ⟨H⟩:=aK
 revert H;refine fH (fun c7 H=>?_) fun c7 H=>?_
 ·have a7:=fZ c7
  have af:=f_ c7
  clear c7
  try simp only [aY,bf,a7]
  obtain rfl:=dF H
  go_wp2
  go_ret
  exact ⟨bM,au⟩
 have a7:=fP c7
 have af:=fQ c7
 have am:¬ (a5=[]):=fun dG=>c7 (by rw [dG];rfl)
 try simp only [aY,bf,a7]
 obtain ⟨ji,rV⟩:∃ lU:Int,(wrap64 ((a5.length:Int) - 1))=lU:=⟨_,rfl⟩
 replace H:(if 0≤(ji) then (if (ji) < (a5.length:Int) then (some (rZ ByteArray.empty a5 (ji))) else (none)) else (none))=some r:=by first|(rw [rV] at H;exact H)|(simp only [rV] at H ⊢;exact H)
 have MV:(IntKind.i64.wrap ((a5.length:Int) - 1))=ji:=(aY _).trans rV
 obtain ⟨an,H⟩:=gK H
 obtain ⟨aN,H⟩:=gK H
 obtain rfl:=dF H
 have a9:0≤((ji):Int):=bF bG
 have aa:(ji) < (a5.length:Int):=bF bG
 obtain ⟨aQ,ag,ab⟩:=Kd.z_ (Kd.dN a6.out).2.2 (ji) a9 aa
 cases ag
 replace a9:=eq_true a9
 replace aa:=eq_true aa
 go_wp2
 go_ret
 exact ⟨NW,au⟩

def sJ.l0:Nat→ByteArray→List ByteArray→Int→List (aF)→Option (List ByteArray)
 | 0,_,_,_,_=>none
 | k+1,x1,x5,x6,a5=>if x6 < (a5.length:Int) then (if 0≤x6 then ((wI.f k ((aC a5 x6).f0)).bind fun a6=>(if a6.toList=x1.toList then (if x1.toList=([]:List UInt8) then (sJ.l0 k x1 x5 (wrap64 (x6+1)) a5) else ((Ef.f k ((aC a5 x6).f0)).bind fun a7=>(if x5.length < 8796093022208 then (sJ.l0 k x1 (x5++[a7]) (wrap64 (x6+1)) a5) else (none)))) else (sJ.l0 k x1 x5 (wrap64 (x6+1)) a5))) else (none)) else (some x5)
def sJ.f (k:Nat) (a5:List (aF)) (a1:ByteArray):Option (List ByteArray):=sJ.l0 k a1 (([]:List ByteArray)) 0 a5
theorem sJ.calls (k:Nat) (an:Option Addr) (ai:Nat) (aI:List (aF)) (a1:ByteArray) (r:List ByteArray) (w:World) (ap:Kd.C aU w an aI.length aI) (aq:aI.length≤ai) (h:sJ.f k aI a1=some r) :
  Calls Tryz.prog 20 #[.agg #[.slice an aI.length ai],.string a1] w fun e w'=>∃ eP:Value,e=.returned (eP)∧Kd.R Kd.string 9 w' w.heap.size (fun _=>True) eP r∧Below w.heap.size w w':=by
 have mF:=underlying28
 have lq:=m_ ap
 have bd:=m_ aq
 clear ap aq
 have HB:=m_ (Below.refl w.heap.size w)
 unfold sJ.f at h
 have H:=h
 clear h
 obtain ⟨b1,aN⟩:∃ y_:List ByteArray,y_=(([]:List ByteArray)):=⟨_,rfl⟩
 rw [← aN] at H
 have ar:=m_ aN
 clear aN
 have H':=m_ H
 clear H
 go_enter func20,ntmps20
 go_wp2_with (first|((with_reducible refine dJ 2 ?_);refine dO 2 (cs:=#[.slice an aI.length ai]) 28 ?_;intro aW hg w3 hbox hb;obtain ⟨HB,a5,be,fA⟩:=kL au hb hbox hg;clear hb hbox hg)|((with_reducible refine dJ 7 ?_);refine Kd.sU Kd.string _ 9 ?hg (N:=7) ?hd (xs:=([]:List ByteArray)) (inner:=[]) (ok:=fun _=>True) (iJ:=fun _=>True) ?hr ?hp (fun _ hk=>hk) trivial (Below.refl _ _) (Nat.le_refl _) (by simp) ?_;(case hd=>rfl);(case hg=>rfl);(case hr=>first|(go_simp;done)|(go_simp;rfl));(case hp=>exact (bD.none _ _));intro azc w4 Jo hb iV iW;clear iV iW;(first|rw [← ar.out] at Jo|(simp only [Int.reduceToNat] at Jo;rw [← ar.out] at Jo));obtain ⟨b2,a5,HB⟩:=p_ (Kd.dI Jo (cZ au)) <| o_ (ak a5) au hb;clear hb Jo))
 go_loopg [5,6] k (fun kq v5 v6 w'=>∃ (ab:List ByteArray) (a6:Int),v6=ah a6∧aA (sJ.l0 kq a1 ab a6 aI=some r)∧aA (kq≤k)∧aA (Kd.R Kd.string 9 w' w.heap.size (fun _=>True) v5 ab)∧aA (w'.heap[aW]?=some (.cells #[(.slice an aI.length ai)] 28))∧aA (Below w.heap.size w w'))
 case atStart=>exact ⟨(b1),(0),bg,H',⟨Nat.le_refl _⟩,⟨(aJ b2)⟩,⟨(ak a5)⟩,⟨au⟩⟩
 case round =>
 clear H'
 obtain ⟨ab,a6,rfl,HA,gZ,dn,a5,HB⟩:=hrel
 cases gk with
 | zero=>exact absurd HA.out (by simp [sJ.l0])
 | succ k1 =>
 obtain ⟨H⟩:=HA
 simp only [sJ.l0] at H
 have dM:=m_ H
 clear H
 have UN:=dh a5.out
 go_upto_if 12 with (fail)
 (try clear UN)
 obtain ⟨H⟩:=dM
 revert H;refine gJ (fun aQ H=>?_) fun aQ H=>?_
 rotate_left
 ·try simp only [aY,bf,aQ]
  obtain rfl:=dF H
  go_wp2
  go_ret
  exact ⟨_,bM,(aJ dn),au⟩
 try simp only [aY,bf,aQ]
 obtain ⟨bj,H⟩:=gK H
 obtain ⟨av,bh,H⟩:=bd_ H
 revert H;refine fH (fun aw H=>?_) fun aw H=>?_
 rotate_left
 ·have b3:=fP aw
  have b4:=fQ aw
  have H':=m_ H
  clear H
  have Om:=dh a5.out
  have ac:0≤(a6:Int):=bF bG
  have ae:a6 < (aI.length:Int):=bF bG
  obtain ⟨al,ax,a7,a8,a9⟩:=kY lq.out a6 ac ae
  cases ax
  replace a7:=iQ HB.out a7
  replace a8:=iQ HB.out a8
  replace a9:=iQ HB.out a9
  replace ac:=eq_true ac
  replace ae:=eq_true ae
  go_wp2_with (first|((with_reducible refine bT 51 ?_);refine bU (some 21) rfl rfl func51 aB rfl #[.string ((aC aI a6).f0)] rfl aX ?_;(with_reducible refine (wI.calls k1 ((aC aI a6).f0) av _ bh.out).mono ?_);rintro e bm ⟨rfl,hb⟩;refine ⟨_,rfl,?_⟩;obtain ⟨dn,a5,HB⟩:=p_ (Kd.dw (aJ dn) hb) <| o_ (ak a5) au hb;(try clear hb)))
  go_roundg k1
  case measure=>have:=gZ.out;omega
  case rel=>exact ⟨(ab),(wrap64 (a6+1)),bg,H',⟨ou⟩,⟨(aJ dn)⟩,⟨(ak a5)⟩,⟨au⟩⟩
 have b3:=fZ aw
 have b4:=f_ aw
 clear aw
 have b5:=m_ H
 clear H
 have Ce:=dh a5.out
 have ac:0≤(a6:Int):=bF bG
 have ae:a6 < (aI.length:Int):=bF bG
 obtain ⟨al,ax,a7,a8,a9⟩:=kY lq.out a6 ac ae
 cases ax
 replace a7:=iQ HB.out a7
 replace a8:=iQ HB.out a8
 replace a9:=iQ HB.out a9
 replace ac:=eq_true ac
 replace ae:=eq_true ae
 go_upto_if 27 with (first|((with_reducible refine bT 51 ?_);refine bU (some 21) rfl rfl func51 aB rfl #[.string ((aC aI a6).f0)] rfl aX ?_;(with_reducible refine (wI.calls k1 ((aC aI a6).f0) av _ bh.out).mono ?_);rintro e fB ⟨rfl,hb⟩;refine ⟨_,rfl,?_⟩;obtain ⟨dn,a5,HB⟩:=p_ (Kd.dw (aJ dn) hb) <| o_ (ak a5) au hb;(try clear hb)))
 (try simp only [Act.put,List.setIfInBounds_toArray,List.set_cons_zero,List.set_cons_succ])
 (try clear Ce)
 (try clear a7 a8 a9)
 obtain ⟨H⟩:=b5
 revert H;refine fH (fun bH H=>?_) fun bH H=>?_
 ·have aa:=fZ bH
  have b6:=f_ bH
  clear bH
  (first|rw [aa]|(simp only [aY,bf];rw [aa])|rw [show (a1.toList).isEmpty=true from by simpa using aa]|skip)
  have H':=m_ H
  clear H
  go_wp2
  go_roundg k1
  case measure=>have:=gZ.out;omega
  case rel=>exact ⟨(ab),(wrap64 (a6+1)),bg,H',⟨ou⟩,⟨(aJ dn)⟩,⟨(ak a5)⟩,⟨au⟩⟩
 have aa:=fP bH
 have b6:=fQ bH
 (first|rw [aa]|(simp only [aY,bf];rw [aa])|rw [show (a1.toList).isEmpty=false from by simpa using aa]|skip)
 obtain ⟨ao,bl,H⟩:=bd_ H
 obtain ⟨bi,H⟩:=kV H
 have b7:=m_ bi
 clear bi
 obtain ⟨b8,am⟩:∃ y_:List ByteArray,y_=(ab++[ao]):=⟨_,rfl⟩
 rw [← am] at H
 have b9:=m_ am
 clear am
 have H':=m_ H
 clear H
 have Io:=dh a5.out
 have az:0≤(a6:Int):=bF bG
 have b0:a6 < (aI.length:Int):=bF bG
 obtain ⟨ba,bc,af,ag,aK⟩:=kY lq.out a6 az b0
 obtain rfl:al=ba:=(by injection bc)
 replace af:=iQ HB.out af
 replace ag:=iQ HB.out ag
 replace aK:=iQ HB.out aK
 replace az:=eq_true az
 replace b0:=eq_true b0
 go_wp2_with (first|((with_reducible refine bT 63 ?_);refine bU (some 35) rfl rfl func63 aB rfl #[.string ((aC aI a6).f0)] rfl aX ?_;(with_reducible refine (Ef.calls k1 ((aC aI a6).f0) ao _ bl.out).mono ?_);rintro e bo ⟨rfl,hb⟩;refine ⟨_,rfl,?_⟩;obtain ⟨dn,a5,HB⟩:=p_ (Kd.dw (aJ dn) hb) <| o_ (ak a5) au hb;(try clear hb))|((with_reducible refine xH (b:=.append) (xs:=#[.tmp 28,.tmp 36]) rfl ?_);at_builtin;refine Kd.CX Kd.string (w0:=w) w.heap.size rfl (.tmp 28) (.tmp 36) 38 9 (.string ⟨#[]⟩) 16 rfl underlying38 info9 rfl (by decide) (by omega) u5 ab ao [.string ao] (fun _=>True) (fun _=>False) rfl rfl ?sW (fun _ hk=>hk.elim) ?kT ?kG ?lu ?kH ?aL ?_;(case sW=>exact rfl);(case lu=>exact au);(case kT=>exact (fun _ _=>trivial));(case kG=>exact (aJ dn));(case kH=>exact (cZ au));(case aL=>have:=b7.out;omega);intro v141 bp ho hb hg hat;rw [← b9.out] at ho;obtain ⟨a5,HB,bb⟩:=p_ (iy (g:=aW) (o:=.cells #[.slice (some al) aI.length ai] 28) (ak a5) hg (Kd.fV dn.out a5.out (by decide))) <| p_ (hb) <| a_ (ho);clear ho hb hg hat))
 go_roundg k1
 case measure=>have:=gZ.out;omega
 case rel=>exact ⟨(b8),(wrap64 (a6+1)),bg,H',⟨ou⟩,⟨(aJ bb)⟩,⟨(ak a5)⟩,⟨au⟩⟩

def yI.f (k:Nat) (a6:List (aF)) (a1:ByteArray):Option (Bool):=if a1.toList=([47]:List UInt8) then (some true) else ((qG.f k a6 a1).bind fun a5=>(if a5 ≥ 0 then (if 0≤a5 then (if a5 < (a6.length:Int) then (some ((aC a6 a5).f1)) else (none)) else (none)) else (some false)))
theorem yI.calls (k:Nat) (aa:Option Addr) (ab:Nat) (aI:List (aF)) (a1:ByteArray) (r:Bool) (w:World) (ae:Kd.C aU w aa aI.length aI) (af:aI.length≤ab) (h:yI.f k aI a1=some r) :
  Calls Tryz.prog 54 #[.agg #[.slice aa aI.length ab],.string a1] w fun e w'=>e=.returned (.bool r)∧Below w.heap.size w w':=by
 have mF:=underlying28
 have lq:=m_ ae
 have ag:=m_ af
 clear ae af
 have HB:=m_ (Below.refl w.heap.size w)
 unfold yI.f at h
 have H:=h
 clear h
 have am:=m_ H
 clear H
 go_enter func54,ntmps54
 go_upto_if 7 with (first|((with_reducible refine dJ 2 ?_);refine dO 2 (cs:=#[.slice aa aI.length ab]) 28 ?_;intro an hg w4 hbox hb;obtain ⟨HB,a5,ao,ap⟩:=kL au hb hbox hg;clear hb hbox hg))
 (try simp only [Act.put,List.setIfInBounds_toArray,List.set_cons_zero,List.set_cons_succ])
 obtain ⟨H⟩:=am
 revert H;refine fH (fun c5 H=>?_) fun c5 H=>?_
 ·have ac:=fZ c5
  have aN:=f_ c5
  clear c5
  try simp only [aY,bf,ac]
  obtain rfl:=dF H
  go_wp2
  go_ret
  exact ⟨bM,au⟩
 have ac:=fP c5
 have aN:=fQ c5
 try simp only [aY,bf,ac]
 obtain ⟨a9,A6,H⟩:=bd_ H
 revert H;refine gJ (fun aQ H=>?_) fun aQ H=>?_
 rotate_left
 ·obtain rfl:=dF H
  have Ce:=dh a5.out
  go_wp2_with (first|((with_reducible refine bT 13 ?_);refine bU (some 10) rfl rfl func13 aB rfl #[.agg #[.slice aa aI.length ab],.string a1] rfl aX ?_;(with_reducible refine (qG.calls k _ _ aI a1 a9 _ pY ag.out A6.out).mono ?_);rintro e av ⟨rfl,hb⟩;refine ⟨_,rfl,?_⟩;obtain ⟨a5,HB⟩:=o_ (ak a5) au hb;(try clear hb)))
  go_ret
  exact ⟨bM,au⟩
 obtain ⟨ar,H⟩:=gK H
 obtain ⟨aW,H⟩:=gK H
 obtain rfl:=dF H
 have UF:=dh a5.out
 go_wp2_with (first|((with_reducible refine bT 13 ?_);refine bU (some 10) rfl rfl func13 aB rfl #[.agg #[.slice aa aI.length ab],.string a1] rfl aX ?_;(with_reducible refine (qG.calls k _ _ aI a1 a9 _ pY ag.out A6.out).mono ?_);rintro e aw ⟨rfl,hb⟩;refine ⟨_,rfl,?_⟩;obtain ⟨a5,HB⟩:=o_ (ak a5) au hb;(try clear hb);have zY:=dh a5.out;have aK:0≤(a9:Int):=bF bG;have ai:a9 < (aI.length:Int):=bF bG;obtain ⟨aq,al,a6,a7,a8⟩:=kY lq.out a9 aK ai;cases al;replace a6:=iQ HB.out a6;replace a7:=iQ HB.out a7;replace a8:=iQ HB.out a8;replace aK:=eq_true aK;replace ai:=eq_true ai))
 go_ret
 exact ⟨bM,au⟩

mutual
def o7.j0:Nat→List ByteArray→Int→Bool→List (aF)→Option (Int)
 | 0,_,_,_,_=>none
 | k+1,x5,x6,a6,a5=>if a6=true then (some 0) else (if x6=0 then (o7.l0 k x5 1 a5) else (some x6))
def o7.l0:Nat→List ByteArray→Int→List (aF)→Option (Int)
 | 0,_,_,_=>none
 | k+1,x5,x7,a5=>if x7 < (x5.length:Int) then (if 0≤x7 then (if x7≤(x5.length:Int) then ((uD.f k (x5.take (x7:Int).toNat)).bind fun a6=>((qG.f k a5 a6).bind fun a7=>(if a7 < 0 then (some 3) else ((yI.f k a5 a6).bind fun a8=>(if a8=true then (o7.l0 k x5 (wrap64 (x7+1)) a5) else (some 4)))))) else (none)) else (none)) else (some 3)
end
def o7.f (k:Nat) (a6:List (aF)) (a1:ByteArray):Option (Int):=(jk.f k a1).bind fun a5=>(if a1.toList=([47]:List UInt8) then (o7.j0 k a5.1 a5.2 true a6) else ((qG.f k a6 a1).bind fun a7=>(o7.j0 k a5.1 a5.2 (decide (a7 ≥ 0)) a6)))
theorem o7.calls (k:Nat) (ac:Option Addr) (ae:Nat) (aI:List (aF)) (a1:ByteArray) (r:Int) (w:World) (an:Kd.C aU w ac aI.length aI) (ao:aI.length≤ae) (h:o7.f k aI a1=some r) :
  Calls Tryz.prog 26 #[.agg #[.slice ac aI.length ae],.string a1] w fun e w'=>e=.returned (ah r)∧Below w.heap.size w w':=by
 have mF:=underlying28
 have lq:=m_ an
 have aK:=m_ ao
 clear an ao
 have HB:=m_ (Below.refl w.heap.size w)
 unfold o7.f at h
 have H:=h
 clear h
 obtain ⟨⟨a6,aw⟩,A3,H⟩:=bd_ H
 have b9:=m_ H
 clear H
 go_enter func26,ntmps26
 go_upto_region 2 with (first|((with_reducible refine dJ 2 ?_);refine dO 2 (cs:=#[.slice ac aI.length ae]) 28 ?_;intro ap hg w5 hbox hb;obtain ⟨HB,a5,be,fA⟩:=kL au hb hbox hg;clear hb hbox hg)|((with_reducible refine bT 53 ?_);refine bU (some 11) rfl rfl func53 aB rfl #[.string a1] rfl aX ?_;(with_reducible refine (jk.calls k a1 a6 aw _ A3.out).mono ?_);rintro e w6 ⟨aaP,rfl,ho0,hb⟩;refine ⟨_,rfl,?_⟩;obtain ⟨a8,a5,HB⟩:=p_ (Kd.dI ho0 (cZ au)) <| o_ (ak a5) au hb;(try clear hb);(try clear ho0)))
 (try simp only [Act.put,List.setIfInBounds_toArray,List.set_cons_zero,List.set_cons_succ])
 go_cut [21] (fun v21 wc=>∃ (kq:Nat) (ag:Bool),v21=.bool ag∧aA (o7.j0 kq a6 aw ag aI=some r)∧aA (kq≤k)∧aA (Kd.R Kd.string 9 wc w.heap.size (fun _=>True) aaP a6)∧aA (wc.heap[ap]?=some (.cells #[(.slice ac aI.length ae)] 28))∧aA (Below w.heap.size w wc))
 case first =>
  obtain ⟨H⟩:=b9
  revert H;refine fH (fun c7 H=>?_) fun c7 H=>?_
  ·have af:=fZ c7
   have ax:=f_ c7
   clear c7
   try simp only [aY,bf,af]
   have H':=m_ H
   clear H
   go_wp2
   go_meet
   case rel=>exact ⟨_,(true),bg,H',⟨kC⟩,⟨(aJ a8)⟩,⟨(ak a5)⟩,⟨au⟩⟩
  have af:=fP c7
  have ax:=fQ c7
  try simp only [aY,bf,af]
  obtain ⟨b2,Ci,H⟩:=bd_ H
  have H':=m_ H
  clear H
  have Ey:=dh a5.out
  go_wp2_with (first|(go_at_call 13;(with_reducible refine (qG.calls k _ _ aI a1 b2 _ pY aK.out Ci.out).mono ?_);rintro e bo ⟨rfl,hb⟩;obtain ⟨a8,a5,HB⟩:=p_ (Kd.dw (aJ a8) hb) <| o_ (ak a5) au hb;(try clear hb)))
  go_meet
  case rel=>exact ⟨_,(decide (b2 ≥ 0)),bg,H',⟨kC⟩,⟨(aJ a8)⟩,⟨(ak a5)⟩,⟨au⟩⟩
 case rest =>
 clear b9
 obtain ⟨kq,ag,rfl,HA,Iu,dn,a5,HB⟩:=hcut
 cases kq with
 | zero=>exact absurd HA.out (by simp [o7.j0])
 | succ AB =>
 obtain ⟨H⟩:=HA
 simp only [o7.j0] at H
 by_cases b3:ag=true
 ·subst b3
  rw [if_pos rfl] at H
  obtain rfl:=dF H
  go_wp2
  go_ret
  exact ⟨bM,au⟩
 replace b3:=Bool.eq_false_iff.mpr b3
 subst b3
 rw [if_neg iI] at H
 revert H;refine fH (fun aq H=>?_) fun aq H=>?_
 rotate_left
 ·have ar:=fP aq
  have aW:=fQ aq
  obtain rfl:=dF H
  go_wp2
  go_ret
  exact ⟨bM,au⟩
 have ar:=fZ aq
 have aW:=f_ aq
 clear aq
 have H':=m_ H
 clear H
 go_wp2
 go_loopg [7] AB (fun kq v7 w'=>∃ (a7:Int),v7=ah a7∧aA (o7.l0 kq a6 a7 aI=some r)∧aA (kq≤AB)∧aA (Kd.R Kd.string 9 w' w.heap.size (fun _=>True) aaP a6)∧aA (w'.heap[ap]?=some (.cells #[(.slice ac aI.length ae)] 28))∧aA (Below w.heap.size w w'))
 case atStart=>exact ⟨(1),bg,H',⟨Nat.le_refl _⟩,⟨(aJ dn)⟩,⟨(ak a5)⟩,⟨au⟩⟩
 case round =>
 clear H'
 try clear b3;try clear aq;try clear ar;try clear aW
 obtain ⟨a7,rfl,HA,jM,dn,a5,HB⟩:=hrel
 cases gk with
 | zero=>exact absurd HA.out (by simp [o7.l0])
 | succ k2 =>
 obtain ⟨H⟩:=HA
 simp only [o7.l0] at H
 have b4:=m_ H
 clear H
 obtain ⟨bH,aQ,ba⟩:=Kd.dK dn.out
 subst ba
 go_upto_if 28 with (fail)
 obtain ⟨H⟩:=b4
 revert H;refine gJ (fun a9 H=>?_) fun a9 H=>?_
 rotate_left
 ·try simp only [aY,bf,a9]
  obtain rfl:=dF H
  go_wp2
  go_ret
  exact ⟨bM,au⟩
 try simp only [aY,bf,a9]
 obtain ⟨dM,bh,H⟩:=jE H
 obtain ⟨bi,bj,H⟩:=jE H
 obtain ⟨ai,aN⟩:∃ y_:List ByteArray,y_=(a6.take (a7:Int).toNat):=⟨_,rfl⟩
 rw [← aN] at H
 have av:=m_ aN
 clear aN
 obtain ⟨aa,bl,H⟩:=bd_ H
 obtain ⟨al,bm,H⟩:=bd_ H
 have b5:=m_ H
 clear H
 have bd:(a7:Int)≤((a6.length:Int):Int):=bF bG
 obtain ⟨ayG,YL,_,aiO,_⟩:=info_parts info9
 have YT:a6.length≤aQ:=(Kd.dN dn.out).2.1
 have Xx:Kd.C Kd.string _ bH a6.length a6:=(Kd.dN dn.out).2.2
 have adg:=Dl (P:=Tryz.prog) 38 9 .i64 underlying38 YL bH a6.length aQ a7 (bF bG) bd YT
 have SX:=Kd.xu (m:=(a7:Int).toNat) Xx (by omega)
 have az:ai.length=(a7:Int).toNat:=(by rw [av.out,List.length_take];omega)
 rw [← av.out] at SX
 rw [← az] at adg
 have KL:=m_ SX
 have b6:=m_ (show ai.length≤aQ from by omega)
 clear SX Xx YT YL aiO
 have alI:=m_ az
 clear az
 have alF:=m_ (show (a7:Int).toNat≤a6.length from by omega)
 replace bd:=eq_true bd
 go_upto_if 38 with (first|((with_reducible refine bT 71 ?_);refine bU (some 34) rfl rfl func71 aB rfl #[.slice bH ai.length aQ] rfl aX ?_;(with_reducible refine (uD.calls k2 _ _ ai aa _ ?kX b6.out bl.out).mono ?_);(case kX=>repeat (first|exact Ut|(with_reducible refine Kd.jO ?_ _)|(with_reducible refine Kd.jT ?_ _)|(with_reducible refine Kd.jS ?_)));rintro e w' ⟨rfl,⟨nd,rfl⟩⟩;refine ⟨_,rfl,?_⟩;have ak6:=dh a5.out)|((with_reducible refine bT 13 ?_);refine bU (some 37) rfl rfl func13 aB rfl #[.agg #[.slice ac aI.length ae],.string aa] rfl aX ?_;(with_reducible refine (qG.calls k2 _ _ aI aa al _ ?kX aK.out bm.out).mono ?_);(case kX=>repeat (first|exact (Kd.pJ lq.out au)|(with_reducible refine Kd.jO ?_ _)|(with_reducible refine Kd.jT ?_ _)|(with_reducible refine Kd.jS ?_)));rintro e bp ⟨rfl,hb⟩;refine ⟨_,rfl,?_⟩;obtain ⟨dn,a5,KL,HB⟩:=p_ (Kd.dw (aJ dn) hb) <| p_ (bZ (ak a5) hb) <| p_ (Kd.pJ Ut hb) <| a_ (dP au hb);(try clear hb)))
 (try simp only [Act.put,List.setIfInBounds_toArray,List.set_cons_zero,List.set_cons_succ])
 (try clear ak6)
 obtain ⟨H⟩:=b5
 revert H;refine gJ (fun ab H=>?_) fun ab H=>?_
 ·try simp only [aY,bf,ab]
  obtain rfl:=dF H
  go_wp2
  go_ret
  exact ⟨bM,au⟩
 try simp only [aY,bf,ab]
 obtain ⟨am,fB,H⟩:=bd_ H
 have b7:=m_ H
 clear H
 have UK:=dh a5.out
 go_upto_if 42 with (first|((with_reducible refine bT 54 ?_);refine bU (some 41) rfl rfl func54 aB rfl #[.agg #[.slice ac aI.length ae],.string aa] rfl aX ?_;(with_reducible refine (yI.calls k2 _ _ aI aa am _ pY aK.out fB.out).mono ?_);rintro e bq ⟨rfl,hb⟩;refine ⟨_,rfl,?_⟩;obtain ⟨dn,a5,KL,HB⟩:=p_ (Kd.dw (aJ dn) hb) <| p_ (bZ (ak a5) hb) <| p_ (Kd.pJ Ut hb) <| a_ (dP au hb);(try clear hb)))
 (try simp only [Act.put,List.setIfInBounds_toArray,List.set_cons_zero,List.set_cons_succ])
 (try clear UK)
 obtain ⟨H⟩:=b7
 by_cases b8:am=true
 rotate_left
 ·replace b8:=Bool.eq_false_iff.mpr b8
  subst b8
  rw [if_neg iI] at H
  obtain rfl:=dF H
  go_wp2
  go_ret
  exact ⟨bM,au⟩
 subst b8
 rw [if_pos rfl] at H
 have H':=m_ H
 clear H
 go_wp2
 go_roundg k2
 case measure=>have:=Iu.out;have:=jM.out;omega
 case rel=>exact ⟨(wrap64 (a7+1)),bg,H',⟨(by have:=Iu.out;have:=jM.out;omega)⟩,⟨(aJ dn)⟩,⟨(ak a5)⟩,⟨au⟩⟩

def yG.f (k:Nat) (a5:List (aF)) (a1:ByteArray):Option (Int):=(jk.f k a1).bind fun a6=>(if a6.2=0 then (if a1.toList=([47]:List UInt8) then (some 6) else ((wI.f k a1).bind fun a7=>((o7.f k a5 a7).bind fun a8=>(if a8=0 then ((yI.f k a5 a7).bind fun a9=>(if a9=true then ((qG.f k a5 a1).bind fun aa=>(if aa ≥ 0 then (some 6) else ((sJ.f k a5 a7).bind fun ab=>(if (ab.length:Int) ≥ 6 then (some 7) else (some 0))))) else (some 4))) else (some a8))))) else (some a6.2))
theorem yG.calls (k:Nat) (aa:Option Addr) (ab:Nat) (aI:List (aF)) (a1:ByteArray) (r:Int) (w:World) (aK:Kd.C aU w aa aI.length aI) (ai:aI.length≤ab) (h:yG.f k aI a1=some r) :
  Calls Tryz.prog 14 #[.agg #[.slice aa aI.length ab],.string a1] w fun e w'=>e=.returned (ah r)∧Below w.heap.size w w':=by
 have mF:=underlying28
 have lq:=m_ aK
 have ae:=m_ ai
 clear aK ai
 have HB:=m_ (Below.refl w.heap.size w)
 unfold yG.f at h
 have H:=h
 clear h
 obtain ⟨⟨b0,am⟩,A3,H⟩:=bd_ H
 have b5:=m_ H
 clear H
 go_enter func14,ntmps14
 go_upto_if 14 with (first|((with_reducible refine dJ 2 ?_);refine dO 2 (cs:=#[.slice aa aI.length ab]) 28 ?_;intro b6 hg w5 hbox hb;obtain ⟨HB,a5,b7,b8⟩:=kL au hb hbox hg;clear hb hbox hg)|((with_reducible refine bT 53 ?_);refine bU (some 10) rfl rfl func53 aB rfl #[.string a1] rfl aX ?_;(with_reducible refine (jk.calls k a1 b0 am _ A3.out).mono ?_);rintro e w6 ⟨v162,rfl,ho0,hb⟩;refine ⟨_,rfl,?_⟩;obtain ⟨a6,a5,HB⟩:=p_ (Kd.dI ho0 (cZ au)) <| o_ (ak a5) au hb;(try clear hb);(try clear ho0)))
 (try simp only [Act.put,List.setIfInBounds_toArray,List.set_cons_zero,List.set_cons_succ])
 obtain ⟨H⟩:=b5
 revert H;refine fH (fun c7 H=>?_) fun c7 H=>?_
 rotate_left
 ·have af:=fP c7
  have b1:=fQ c7
  try simp only [aY,bf,af]
  obtain rfl:=dF H
  go_wp2
  go_ret
  exact ⟨bM,au⟩
 have af:=fZ c7
 have b1:=f_ c7
 clear c7
 try simp only [aY,bf,af]
 revert H;refine fH (fun c8 H=>?_) fun c8 H=>?_
 ·have b2:=fZ c8
  have b3:=f_ c8
  clear c8
  obtain rfl:=dF H
  go_wp2
  go_ret
  exact ⟨bM,au⟩
 have b2:=fP c8
 have b3:=fQ c8
 obtain ⟨ac,A9,H⟩:=bd_ H
 obtain ⟨an,b9,H⟩:=bd_ H
 have ao:=m_ H
 clear H
 go_upto_if 23 with (first|((with_reducible refine bT 51 ?_);refine bU (some 19) rfl rfl func51 aB rfl #[.string a1] rfl aX ?_;(with_reducible refine (wI.calls k a1 ac _ A9.out).mono ?_);rintro e fA ⟨rfl,hb⟩;refine ⟨_,rfl,?_⟩;obtain ⟨a6,a5,HB⟩:=p_ (Kd.dw (aJ a6) hb) <| o_ (ak a5) au hb;(try clear hb);have Ce:=dh a5.out)|((with_reducible refine bT 26 ?_);refine bU (some 22) rfl rfl func26 aB rfl #[.agg #[.slice aa aI.length ab],.string ac] rfl aX ?_;(with_reducible refine (o7.calls k _ _ aI ac an _ pY ae.out b9.out).mono ?_);rintro e dM ⟨rfl,hb⟩;refine ⟨_,rfl,?_⟩;obtain ⟨a6,a5,HB⟩:=p_ (Kd.dw (aJ a6) hb) <| o_ (ak a5) au hb;(try clear hb)))
 (try simp only [Act.put,List.setIfInBounds_toArray,List.set_cons_zero,List.set_cons_succ])
 (try clear Ce)
 obtain ⟨H⟩:=ao
 revert H;refine fH (fun aN H=>?_) fun aN H=>?_
 rotate_left
 ·have a7:=fP aN
  have ap:=fQ aN
  try simp only [aY,bf,a7]
  obtain rfl:=dF H
  go_wp2
  go_ret
  exact ⟨bM,au⟩
 have a7:=fZ aN
 have ap:=f_ aN
 clear aN
 try simp only [aY,bf,a7]
 obtain ⟨aq,ba,H⟩:=bd_ H
 have ar:=m_ H
 clear H
 have Io:=dh a5.out
 go_upto_if 27 with (first|((with_reducible refine bT 54 ?_);refine bU (some 30) rfl rfl func54 aB rfl #[.agg #[.slice aa aI.length ab],.string ac] rfl aX ?_;(with_reducible refine (yI.calls k _ _ aI ac aq _ pY ae.out ba.out).mono ?_);rintro e bh ⟨rfl,hb⟩;refine ⟨_,rfl,?_⟩;obtain ⟨a6,a5,HB⟩:=p_ (Kd.dw (aJ a6) hb) <| o_ (ak a5) au hb;(try clear hb)))
 (try simp only [Act.put,List.setIfInBounds_toArray,List.set_cons_zero,List.set_cons_succ])
 (try clear Io)
 obtain ⟨H⟩:=ar
 by_cases az:aq=true
 rotate_left
 ·replace az:=Bool.eq_false_iff.mpr az
  subst az
  rw [if_neg iI] at H
  obtain rfl:=dF H
  go_wp2
  go_ret
  exact ⟨bM,au⟩
 subst az
 rw [if_pos rfl] at H
 obtain ⟨aW,bb,H⟩:=bd_ H
 have av:=m_ H
 clear H
 have Oo:=dh a5.out
 go_upto_if 32 with (first|((with_reducible refine bT 13 ?_);refine bU (some 35) rfl rfl func13 aB rfl #[.agg #[.slice aa aI.length ab],.string a1] rfl aX ?_;(with_reducible refine (qG.calls k _ _ aI a1 aW _ pY ae.out bb.out).mono ?_);rintro e bi ⟨rfl,hb⟩;refine ⟨_,rfl,?_⟩;obtain ⟨a6,a5,HB⟩:=p_ (Kd.dw (aJ a6) hb) <| o_ (ak a5) au hb;(try clear hb)))
 (try simp only [Act.put,List.setIfInBounds_toArray,List.set_cons_zero,List.set_cons_succ])
 (try clear Oo)
 obtain ⟨H⟩:=av
 revert H;refine gJ (fun a8 H=>?_) fun a8 H=>?_
 ·try simp only [aY,bf,a8]
  obtain rfl:=dF H
  go_wp2
  go_ret
  exact ⟨bM,au⟩
 try simp only [aY,bf,a8]
 obtain ⟨ag,bc,H⟩:=bd_ H
 have aw:=m_ H
 clear H
 have Kt:=dh a5.out
 go_upto_if 37 with (first|((with_reducible refine bT 20 ?_);refine bU (some 40) rfl rfl func20 aB rfl #[.agg #[.slice aa aI.length ab],.string ac] rfl aX ?_;(with_reducible refine (sJ.calls k _ _ aI ac ag _ pY ae.out bc.out).mono ?_);rintro e bj ⟨azd,rfl,ho0,hb⟩;refine ⟨_,rfl,?_⟩;obtain ⟨a6,ax,a5,HB⟩:=p_ (Kd.jX (aJ a6) (Kd.jo ho0) hb) <| p_ (Kd.dI (Kd.jY ho0 (Kd.jJ (aJ a6))) (cZ au)) <| o_ (ak a5) au hb;(try clear hb);(try clear ho0);obtain ⟨bd,be,b4⟩:=Kd.dK ax.out;subst b4))
 (try simp only [Act.put,List.setIfInBounds_toArray,List.set_cons_zero,List.set_cons_succ])
 (try clear Kt)
 obtain ⟨H⟩:=aw
 revert H;refine fH (fun al H=>?_) fun al H=>?_
 ·have a9:=mM al
  have bH:decide (6≤ag.length)=true:=mM (by omega)
  clear al
  try simp only [aY,bf,a9]
  obtain rfl:=dF H
  go_wp2
  go_ret
  exact ⟨bM,au⟩
 have a9:=vX al
 have bH:decide (6≤ag.length)=false:=vX (by omega)
 clear al
 try simp only [aY,bf,a9]
 obtain rfl:=dF H
 go_wp2
 go_ret
 exact ⟨bM,au⟩

end Go.Proofs.YthejdhjpbpamoaaGreatDoor.jD
