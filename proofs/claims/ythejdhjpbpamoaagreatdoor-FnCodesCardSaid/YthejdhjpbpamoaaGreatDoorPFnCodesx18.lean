/- Contracts of Go functions: each call returns what the Lean function beside it computes. Conditions: as each theorem states them. -/
import Derived.Test.YthejdhjpbpamoaaGreatDoorPkFnCodes
import Derived.Test.YthejdhjpbpamoaaGreatDoorPFnCodesx1
namespace Go.Proofs.YthejdhjpbpamoaaGreatDoor.jD
open Go.RowKit Go.Proofs.YthejdhjpbpamoaaGreatDoorW.iw Go.Proofs.YthejdhjpbpamoaaGreatDoorW.lH Go.Proofs.YthejdhjpbpamoaaGreatDoorW.oO Go.Proofs.Tryz
attribute [local go_sem] qw qB qA qF qy qE qx qC   -- for this text's walks alone
set_option linter.unusedVariables false
set_option maxHeartbeats 8000000
set_option maxRecDepth 100000
set_option linter.unusedSimpArgs false

mutual
def jd.l0:Nat→Bool→Int→List (aF)→ByteArray→Bool→ByteArray→List (aF)→Option ((List (aF)))
 | 0,_,_,_,_,_,_,_=>none
 | k+1,x6,x7,a6,a7,a8,a9,a5=>if x7 < (a6.length:Int) then (if x6=true then (jd.j1 k x6 x7 false a6 a7 a8 a9 a5) else (if 0≤x7 then (jd.j1 k x6 x7 (Op.bytesLess a7.toList (((aC a6 x7).f0).toList)) a6 a7 a8 a9 a5) else (none))) else (if x6=true then (some a5) else (if a5.length < 3518437208883 then (some (a5++[(⟨a7,a8,a9⟩:aF)])) else (none)))
def jd.j1:Nat→Bool→Int→Bool→List (aF)→ByteArray→Bool→ByteArray→List (aF)→Option ((List (aF)))
 | 0,_,_,_,_,_,_,_,_=>none
 | k+1,x6,x7,ab,a5,a6,a7,a8,a9=>if ab=true then (if a9.length < 3518437208883 then ((some (a9++[(⟨a6,a7,a8⟩:aF)]:List (aF))).bind fun aa=>(if 0≤x7 then (if x7 < (a5.length:Int) then (if ((aC a5 x7).f0).toList=a6.toList then (jd.l0 k true (wrap64 (x7+1)) a5 a6 a7 a8 aa) else (if aa.length < 3518437208883 then (jd.l0 k true (wrap64 (x7+1)) a5 a6 a7 a8 (aa++[(⟨(aC a5 x7).f0,(aC a5 x7).f1,(aC a5 x7).f2⟩:aF)])) else (none))) else (none)) else (none))) else (none)) else (if 0≤x7 then (if x7 < (a5.length:Int) then (if ((aC a5 x7).f0).toList=a6.toList then (jd.l0 k x6 (wrap64 (x7+1)) a5 a6 a7 a8 a9) else (if a9.length < 3518437208883 then (jd.l0 k x6 (wrap64 (x7+1)) a5 a6 a7 a8 (a9++[(⟨(aC a5 x7).f0,(aC a5 x7).f1,(aC a5 x7).f2⟩:aF)])) else (none))) else (none)) else (none))
end
def jd.f (k:Nat) (a5:List (aF)) (a6:ByteArray) (a7:Bool) (a8:ByteArray):Option ((List (aF))):=jd.l0 k false 0 a5 a6 a7 a8 ([]:List (aF))
def jd.T6:Bool × List (List Nat × List Nat):=(true,[([],[]),([0],[0]),([1],[1]),([2],[2]),([3,2],[2,3]),([2],[2]),([4,5,2],[2,4,5]),([6,2],[2,6]),([7,2],[2,7]),([2],[2]),([9,2],[2,9]),([8,10,2],[2,8,10]),([2,11],[2,11])])
def jd.B6:List Nat:=[0,1,3,7,15,7,63,127,255,7,519,2047,4095]
theorem jd.tab6:kZ .any (opsOf Tryz.f90 6)=jd.T6:=by kernel_rfl
theorem jd.IQ:uS jd.T6.2 jd.B6=true:=by kernel_rfl
def jd.T9:Bool × List (List Nat × List Nat):=(true,[([],[]),([0],[0]),([],[]),([1,2],[1,2]),([3],[3]),([4],[4]),([],[]),([6],[6]),([5,7],[5,7])])
def jd.B9:List Nat:=[0,1,0,7,15,31,0,64,255]
theorem jd.J7:kZ .any (opsOf Tryz.f90 9)=jd.T9:=by kernel_rfl
theorem jd.IU:uS jd.T9.2 jd.B9=true:=by kernel_rfl
def jd.T10:Bool × List (List Nat × List Nat):=(true,[([],[]),([0],[0]),([],[]),([2],[2]),([],[]),([3,4],[3,4]),([5],[5]),([6],[6]),([1,7],[1,7]),([0,1,2,3,4,5,6,7,8],[]),([9,8,8,0,1,2,3,4,5,6,7,8],[8,9])])
def jd.B10:List Nat:=[0,1,0,4,0,28,60,124,255,511,1023]
theorem jd.J6:kZ .any (opsOf Tryz.f90 10)=jd.T10:=by kernel_rfl
theorem jd.IL:uS jd.T10.2 jd.B10=true:=by kernel_rfl
theorem jd.calls (k:Nat) (cd:Option Addr) (b2:Nat) (aI:List (aF)) (fG:ByteArray) (fE:Bool) (fC:ByteArray) (r:List (aF)) (w:World) (cw:Kd.C aU w cd aI.length aI) (cx:aI.length≤b2) (h:jd.f k aI fG fE fC=some r) :
  Calls Tryz.prog 90 #[.agg #[.slice cd aI.length b2],.agg #[.string fG,.bool fE,.string fC]] w fun e w'=>∃ eP:Value,e=.returned (.agg #[eP])∧Kd.R aU 43 w' w.heap.size (fun _=>True) eP r∧Below w.heap.size w w':=by
 have mF:=underlying28
 have uf:=underlying43
 have lq:=m_ cw
 have ep:=m_ cx
 clear cw cx
 have HB:=m_ (Below.refl w.heap.size w)
 unfold jd.f at h
 have H:=h
 clear h
 have H':=m_ H
 clear H
 go_enter func90,ntmps90
 go_wp2_with (first|((with_reducible refine dJ 2 ?_);refine dO 2 (cs:=#[.slice cd aI.length b2]) 28 ?_;intro b0 hg w3 hbox hb;obtain ⟨HB,a7,eq,er⟩:=kL au hb hbox hg;clear hb hbox hg)|((with_reducible refine dJ 3 ?_);refine dO 3 (cs:=#[.string fG,.bool fE,.string fC]) 43 ?_;intro uK hg w4 hbox hb;obtain ⟨a7,HB,kP,es,et,fA,dM⟩:=pq (ak a7) au hb hbox hg;clear hb hbox hg)|((with_reducible refine dJ 4 ?_);refine dO 4 (cs:=#[.slice none 0 0]) 28 ?_;intro b3 hg w5 hbox hb;obtain ⟨a7,kP,HB,a9,tY,ev,bh,bi,bj,bl⟩:=pU (ak a7) (ak kP) au hb hbox hg;clear hb hbox hg)|((with_reducible refine dJ 5 ?_);refine dO 5 (cs:=#[.slice none 0 0]) 28 ?_;intro ac hg w6 hbox hb;obtain ⟨a7,kP,a9,HB,a6,ew,ex,ae,af,ag,aK,ai,aN⟩:=vI (ak a7) (ak kP) (ak a9) au hb hbox hg;clear hb hbox hg;obtain ⟨aQ,al,am,an,ao,ap⟩:=kJ af ae aK ag aN ai;have UF:=dh a6.out))
 go_loopg [6,7] k (fun kq v6 v7 w'=>∃ (ca:Bool) (a8:Int) (aa:List (aF)) (xq:Value),v6=.bool ca∧v7=ah a8∧aA (jd.l0 kq ca a8 aI fG fE fC aa=some r)∧aA (kq≤k)∧aA (Kd.R aU 43 w' w.heap.size (fun ay=>ay≠uK) xq aa)∧aA (w'.heap[b0]?=some (.cells #[(.slice cd aI.length b2)] 28))∧aA (w'.heap[uK]?=some (.cells #[.string fG,.bool fE,.string fC] 43))∧aA (w'.heap[b3]?=some (.cells #[(.slice none 0 0)] 28))∧aA (w'.heap[ac]?=some (.cells #[xq] 28))∧aA (Below w.heap.size w w'))
 case atStart=>exact ⟨(false),(0),(([]:List (aF))),(.slice none 0 0),bg,bg,H',⟨Nat.le_refl _⟩,⟨kD⟩,⟨aT⟩,⟨aT⟩,⟨aT⟩,⟨aT⟩,⟨au⟩⟩
 case round =>
 clear H'
 try clear UF
 obtain ⟨ca,a8,aa,xq,rfl,rfl,HA,gZ,a5,a7,kP,a9,a6,HB⟩:=hrel
 cases gk with
 | zero=>exact absurd HA.out (by simp [jd.l0])
 | succ k1 =>
 obtain ⟨H⟩:=HA
 simp only [jd.l0] at H
 have lN:=m_ H
 clear H
 obtain ⟨b4,b5,bs,bu⟩:=g_ fA dM bh bi
 have Oj:=dh a7.out
 go_upto_if 13 with (fail)
 (try clear b4 bs al b5 an bu ap aQ am ao)
 (try clear Oj)
 obtain ⟨H⟩:=lN
 revert H;refine gJ (fun bx H=>?_) fun bx H=>?_
 rotate_left
 ·try simp only [aY,bf,bx]
  by_cases e4:ca=true
  ·subst e4
   rw [if_pos rfl] at H
   obtain rfl:=dF H
   obtain ⟨aQ,al,am,an,ao,ap⟩:=kJ af ae aK ag aN ai
   have aBl:=dh a6.out
   obtain ⟨e6,e7,e8⟩:=Kd.dK a5.out
   subst e8
   obtain ⟨bu,bs,bv,bw⟩:=g_ bi bh bl bj
   have aBn:=dh a9.out
   go_wp2
   refine bodyPost_ret (results_cell_row rfl _ _ b3 28 #[.slice e6 aa.length e7] (0,0) _ rfl aT underlying28 rfl aB) rfl ?_
   exact ⟨_,bM,(by (with_reducible repeat (first|apply Kd.dB|apply Kd.dD|apply Kd.aZ));exact Kd.bn (aH (Kd.bQ a5.out a9.out (by decide))) (fun _ hk=>trivial)),au⟩
  replace e4:=Bool.eq_false_iff.mpr e4
  subst e4
  rw [if_neg iI] at H
  obtain ⟨ey,H⟩:=kV H
  have di:=m_ ey
  clear ey
  obtain ⟨dj,cp⟩:∃ y_:List (aF),y_=(aa++[(⟨fG,fE,fC⟩:aF)]):=⟨_,rfl⟩
  rw [← cp] at H
  have dk:=m_ cp
  clear cp
  obtain rfl:=dF H
  obtain ⟨aQ,al,am,an,ao,ap⟩:=kJ af ae aK ag aN ai
  have alf:=dh a6.out
  obtain ⟨b5,b4,bw,bv⟩:=g_ dM fA bj bl
  have fi:=uw kP.out
  go_wp2_with (first|((with_reducible refine xH (b:=.append) (xs:=#[.tmp 57,.tmp 59]) rfl ?_);at_builtin;refine Kd.CX aU (w0:=w) w.heap.size rfl (.tmp 57) (.tmp 59) 26 43 (.agg #[(.string ⟨#[]⟩),(.bool false),(.string ⟨#[]⟩)]) 40 rfl underlying26 pV rfl (by decide) (by omega) xq aa (⟨fG,fE,fC⟩:aF) [.string fG,.bool fE,.string fC] (fun ay=>ay≠uK) (fun _=>False) rfl rfl ?sW (fun _ hk=>hk.elim) ?kT ?kG ?lu ?kH ?aL ?_;(case sW=>exact qp _ _ _ (⟨fG,fE,fC⟩:aF));(case lu=>exact au);(case kT=>exact Oc);(case kG=>exact (aJ a5));(case kH=>exact (cZ au));(case aL=>have:=di.out;omega);intro azU fp ho hb hg hat;rw [← dk.out] at ho;obtain ⟨a7,kP,a9,a6,HB,cy⟩:=p_ (iy (g:=b0) (o:=.cells #[.slice cd aI.length b2] 28) (ak a7) hg (Kd.fV a5.out a7.out (by decide))) <| p_ (iy (g:=uK) (o:=.cells #[.string fG,.bool fE,.string fC] 43) (ak kP) hg (Kd.rC a5.out (fun _ hk=>hk))) <| p_ (iy (g:=b3) (o:=.cells #[.slice none 0 0] 28) (ak a9) hg (Kd.fV a5.out a9.out (by decide))) <| p_ (iy (g:=ac) (o:=.cells #[xq] 28) (ak a6) hg (Kd.fV a5.out a6.out (by decide))) <| p_ (hb) <| a_ (ho);clear ho hb hg hat;obtain ⟨e9,ea,eb⟩:=Kd.dK cy.out;subst eb;have alh:=dh a6.out;obtain ⟨bu,bs⟩:=gB bi bh;have ali:=dh a9.out))
  refine bodyPost_ret (results_cell_row rfl _ _ b3 28 #[.slice e9 dj.length ea] (0,0) _ rfl aT underlying28 rfl aB) rfl ?_
  exact ⟨_,bM,(by (with_reducible repeat (first|apply Kd.dB|apply Kd.dD|apply Kd.aZ));exact Kd.bn (aH (aH (Kd.bQ (Kd.bQ cy.out a6.out (by decide)) a9.out (by decide)) (fun _ hk=>hk.1.2))) (fun _ hk=>trivial)),au⟩
 try simp only [aY,bf,bx]
 have d2:=m_ H
 clear H
 go_upto_region 6 with (fail)
 go_cut [28] (fun v28 wc=>∃ (kq:Nat) (cc:Bool),v28=.bool cc∧aA (jd.j1 kq ca a8 cc aI fG fE fC aa=some r)∧aA (kq≤k1)∧aA (Kd.R aU 43 wc w.heap.size (fun ay=>ay≠uK) xq aa)∧aA (wc.heap[b0]?=some (.cells #[(.slice cd aI.length b2)] 28))∧aA (wc.heap[uK]?=some (.cells #[.string fG,.bool fE,.string fC] 43))∧aA (wc.heap[b3]?=some (.cells #[(.slice none 0 0)] 28))∧aA (wc.heap[ac]?=some (.cells #[xq] 28))∧aA (Below w.heap.size w wc))
 case first =>
  obtain ⟨H⟩:=d2
  by_cases dl:ca=true
  ·subst dl
   rw [if_pos rfl] at H
   have H':=m_ H
   clear H
   try go_wp2
   obtain ⟨a5,a7,kP,a9,a6,HB⟩:=p_ (Kd.aZ a5.out) <| wV a7 kP a9 a6 HB
   refine iT (n:=13) (S:=fun w'=>True) (ds:=[]) Dh aB rfl rfl trivial (fun hH=>?_);refine kE jd.tab6 jd.IQ (fun aO fJ=>?_)
   generalize wr.drew=fq at a5 a7 kP a9 a6 HB hH ⊢
   refine bV 0 ?_
   refine bV 1 ?_
   refine bV 2 ?_
   refine jW 3 ?_
   refine jW 4 ?_
   refine jW 5 ?_
   refine jW 6 ?_
   refine jW 7 ?_
   refine jW 8 ?_
   refine jW 9 ?_
   refine jW 10 ?_
   refine jW 11 ?_
   refine bV 12 ?_
   refine iP (ku aO.out aB) ?_
   try go_wp2
   go_meet
   case rel=>exact ⟨_,(false),bg,H',⟨NR⟩,⟨(aJ a5)⟩,⟨(ak a7)⟩,⟨(ak kP)⟩,⟨(ak a9)⟩,⟨(ak a6)⟩,⟨au⟩⟩
  replace dl:=Bool.eq_false_iff.mpr dl
  subst dl
  rw [if_neg iI] at H
  obtain ⟨cq,H⟩:=gK H
  try simp only [aY,bf,cq]
  have H':=m_ H
  clear H
  try go_wp2
  obtain ⟨a5,a7,kP,a9,a6,HB⟩:=p_ (Kd.aZ a5.out) <| wV a7 kP a9 a6 HB
  have iO:0≤(a8:Int):=bF bG
  have cv:a8 < (aI.length:Int):=bF bG
  obtain ⟨bz,ed,b6,b7,b8⟩:=kY lq.out a8 iO cv
  have cg:=b8
  have ch:=b7
  have ci:=b6
  cases ed
  replace b6:=iQ HB.out b6
  replace b7:=iQ HB.out b7
  replace b8:=iQ HB.out b8
  replace iO:=eq_true iO
  replace cv:=eq_true cv
  refine iT (n:=13) (S:=fun w'=>jQ w' b0 (.slice (some bz) aI.length b2) <| Kv w' uK (.string fG) (.bool fE) (.string fC) <| xX w' (bz.add ((a8).toNat * 3)) (.string ((aC aI a8).f0)) (.bool ((aC aI a8).f1)) (.string ((aC aI a8).f2))) (ds:=[]) Dh aB rfl rfl ⟨(aP a7.out 0).trans rfl,Ld kP.out ⟨((HB.out.cell (World.block_lt_of_cell? w _ ci)).trans ci),((HB.out.cell (World.block_lt_of_cell? w _ ch)).trans ch),((HB.out.cell (World.block_lt_of_cell? w _ cg)).trans cg)⟩⟩ (fun hH=>?_);refine kE jd.tab6 jd.IQ (fun aO fJ=>?_)
  generalize wr.drew=fs at a5 a7 kP a9 a6 HB b6 b7 b8 hH ⊢
  refine bV 0 ?_
  refine bV 1 ?_
  refine bV 2 ?_
  refine bV 3 ?_
  refine cu 5 21 #[aj,aj,aj,aj,F_,aj,F_,F_,F_,F_,F_,F_,F_] aO ?_
  refine cu 9 25 #[aj,aj,aj,aj,F_,aj,F_,F_,F_,aj,F_,F_,F_] aO ?_
  refine jZ 4 20 #[aj,aj,aj,aj,aj,aj,F_,F_,F_,aj,F_,F_,F_] aO fJ hH ?_
  refine cu 6 22 #[aj,aj,aj,aj,aj,aj,aj,F_,F_,aj,F_,F_,F_] aO ?_
  refine cu 7 23 #[aj,aj,aj,aj,aj,aj,aj,aj,F_,aj,F_,F_,F_] aO ?_
  refine lg 8 hH ?_
  refine lg 10 hH ?_
  refine bV 11 ?_
  refine bV 12 ?_
  refine iP (ku aO.out aB) ?_
  try go_wp2
  go_meet
  case rel=>exact ⟨_,((Op.bytesLess fG.toList (((aC aI a8).f0).toList))),(by first|rfl|(simp;done)|exact congrArg Value.bool (zH _ _)|exact congrArg Value.bool (Bh _ _)|(simp only [Value.bool.injEq];first|exact zH _ _|exact Bh ..)|(simp [*];done)),H',⟨NR⟩,⟨(aJ a5)⟩,⟨(ak a7)⟩,⟨(ak kP)⟩,⟨(ak a9)⟩,⟨(ak a6)⟩,⟨au⟩⟩
 case rest =>
 clear d2
 try clear d1;try clear bx
 obtain ⟨kq,cc,rfl,HA,Ba,a5,a7,kP,a9,a6,HB⟩:=hcut
 cases kq with
 | zero=>exact absurd HA.out (by simp [jd.j1])
 | succ Nl =>
 obtain ⟨H⟩:=HA
 simp only [jd.j1] at H
 by_cases e5:cc=true
 rotate_left
 ·replace e5:=Bool.eq_false_iff.mpr e5
  subst e5
  rw [if_neg iI] at H
  obtain ⟨f7,H⟩:=gK H
  obtain ⟨fa,H⟩:=gK H
  have dm:=m_ H
  clear H
  try go_wp2
  obtain ⟨a5,a7,kP,a9,a6,HB⟩:=p_ (Kd.aZ a5.out) <| wV a7 kP a9 a6 HB
  have d3:0≤(a8:Int):=bF bG
  have d4:a8 < (aI.length:Int):=bF bG
  obtain ⟨aq,ee,b9,ba,bb⟩:=kY lq.out a8 d3 d4
  have cj:=bb
  have ck:=ba
  have cl:=b9
  cases ee
  replace b9:=iQ HB.out b9
  replace ba:=iQ HB.out ba
  replace bb:=iQ HB.out bb
  replace d3:=eq_true d3
  replace d4:=eq_true d4
  refine iT (n:=9) (S:=fun w'=>jQ w' b0 (.slice (some aq) aI.length b2) <| Kv w' uK (.string fG) (.bool fE) (.string fC) <| xX w' (aq.add ((a8).toNat * 3)) (.string ((aC aI a8).f0)) (.bool ((aC aI a8).f1)) (.string ((aC aI a8).f2))) (ds:=[]) EP aB rfl rfl ⟨(aP a7.out 0).trans rfl,Ld kP.out ⟨((HB.out.cell (World.block_lt_of_cell? w _ cl)).trans cl),((HB.out.cell (World.block_lt_of_cell? w _ ck)).trans ck),((HB.out.cell (World.block_lt_of_cell? w _ cj)).trans cj)⟩⟩ (fun hH=>?_);refine kE jd.J7 jd.IU (fun aO fJ=>?_)
  generalize wc.drew=fj at a5 a7 kP a9 a6 HB b9 ba bb hH ⊢
  refine bV 0 ?_
  refine bV 2 ?_
  refine bV 6 ?_
  refine lg 1 hH ?_
  refine bV 3 ?_
  refine bV 4 ?_
  refine lg 5 hH ?_
  refine lg 7 hH ?_
  refine bV 8 ?_
  refine iP (ku aO.out aB) ?_
  go_upto_if 43 with (fail)
  (try clear b9 ba bb)
  obtain ⟨H⟩:=dm
  revert H;refine fH (fun d5 H=>?_) fun d5 H=>?_
  ·have ce:=fZ d5
   have lF:=f_ d5
   clear d5
   try simp only [aY,bf,ce]
   have H':=m_ H
   clear H
   go_wp2
   go_roundg Nl
   case measure=>have:=gZ.out;have:=Ba.out;omega
   case rel=>exact ⟨(ca),(wrap64 (a8+1)),(aa),(xq),bg,bg,H',⟨(by have:=gZ.out;have:=Ba.out;omega)⟩,⟨(aJ a5)⟩,⟨(ak a7)⟩,⟨(ak kP)⟩,⟨(ak a9)⟩,⟨(ak a6)⟩,⟨au⟩⟩
  have ce:=fP d5
  have lF:=fQ d5
  try simp only [aY,bf,ce]
  obtain ⟨fb,H⟩:=kV H
  have dp:=m_ fb
  clear fb
  obtain ⟨d6,cr⟩:∃ y_:List (aF),y_=(aa++[(⟨(aC aI a8).f0,(aC aI a8).f1,(aC aI a8).f2⟩:aF)]):=⟨_,rfl⟩
  rw [← cr] at H
  have dq:=m_ cr
  clear cr
  have H':=m_ H
  clear H
  try go_wp2
  obtain ⟨a5,a7,kP,a9,a6,HB⟩:=p_ (Kd.aZ a5.out) <| wV a7 kP a9 a6 HB
  have d7:0≤(a8:Int):=bF bG
  have d8:a8 < (aI.length:Int):=bF bG
  obtain ⟨dr,ef,bm,fB,bo⟩:=kY lq.out a8 d7 d8
  have ar:=bo
  have aW:=fB
  have av:=bm
  obtain rfl:aq=dr:=(by injection ef)
  replace bm:=iQ HB.out bm
  replace fB:=iQ HB.out fB
  replace bo:=iQ HB.out bo
  replace d7:=eq_true d7
  replace d8:=eq_true d8
  refine iT (n:=11) (S:=fun w'=>jQ w' ac (xq) <| jQ w' b0 (.slice (some aq) aI.length b2) <| xX w' (aq.add ((a8).toNat * 3)) (.string ((aC aI a8).f0)) (.bool ((aC aI a8).f1)) (.string ((aC aI a8).f2))) (ds:=[10]) Bl aB rfl rfl ⟨(aP a6.out 0).trans rfl,(aP a7.out 0).trans rfl,((HB.out.cell (World.block_lt_of_cell? w _ av)).trans av),((HB.out.cell (World.block_lt_of_cell? w _ aW)).trans aW),((HB.out.cell (World.block_lt_of_cell? w _ ar)).trans ar)⟩ (fun hH=>?_);refine kE jd.J6 jd.IL (fun aO fJ=>?_)
  generalize fj.drew=fx at a5 a7 kP a9 a6 HB bm fB bo hH ⊢
  refine bV 0 ?_
  refine bV 2 ?_
  refine bV 4 ?_
  refine lg 1 hH ?_
  refine lg 3 hH ?_
  refine bV 5 ?_
  refine lg 6 hH ?_
  refine oZ 7 (fun K hK=>?_)
  refine Oh (w1:=?_) (v:=?_) (by rfl) rfl ?_ ?_
  rotate_left 2
  ·go_simp
   constructor
   ·rfl
   ·rfl
  refine hK.out _ _ ⟨(aP (kU a6.out _) 0).trans rfl,(aP (kU a7.out _) 0).trans rfl,(World.cell?_alloc_lt _ _ _ (World.block_lt_of_cell? _ _ (((HB.out.cell (World.block_lt_of_cell? w _ av)).trans av)))).trans (((HB.out.cell (World.block_lt_of_cell? w _ av)).trans av)),(World.cell?_alloc_lt _ _ _ (World.block_lt_of_cell? _ _ (((HB.out.cell (World.block_lt_of_cell? w _ aW)).trans aW)))).trans (((HB.out.cell (World.block_lt_of_cell? w _ aW)).trans aW)),(World.cell?_alloc_lt _ _ _ (World.block_lt_of_cell? _ _ (((HB.out.cell (World.block_lt_of_cell? w _ ar)).trans ar)))).trans (((HB.out.cell (World.block_lt_of_cell? w _ ar)).trans ar))⟩ (fun hH=>?_)
  clear hK K
  refine eX (some 51) ?_
  refine oZ 8 (fun K hK=>?_)
  refine Kd.KO aU (w0:=w) w.heap.size (by rfl) (.tmp 45) (.tmp 51) 26 43 (.agg #[(.string ⟨#[]⟩),(.bool false),(.string ⟨#[]⟩)]) 40 rfl underlying26 pV rfl (by decide) (by omega) xq aa (⟨(aC aI a8).f0,(aC aI a8).f1,(aC aI a8).f2⟩:aF) [.string ((aC aI a8).f0),.bool ((aC aI a8).f1),.string ((aC aI a8).f2)] (fun ay=>ay≠uK) (fun _=>False) rfl rfl ?sW (fun _ hk=>hk.elim) ?kT ?kG ?lu ?kH ?aL ?_
  (case sW=>exact qp _ _ _ (⟨(aC aI a8).f0,(aC aI a8).f1,(aC aI a8).f2⟩:aF))
  (case lu=>exact au)
  (case kT=>exact Oc)
  (case kG=>exact (aJ a5))
  (case kH=>exact (cZ au))
  (case aL=>have:=dp.out;omega)
  intro azX fk ho hb hg hat
  rw [← dq.out] at ho
  obtain ⟨a7,kP,a9,a6,HB,cz⟩:=p_ (iy (g:=b0) (o:=.cells #[.slice (some aq) aI.length b2] 28) (ak a7) hg (Kd.fV a5.out a7.out (by decide))) <| p_ (iy (g:=uK) (o:=.cells #[.string fG,.bool fE,.string fC] 43) (ak kP) hg (Kd.rC a5.out (fun _ hk=>hk))) <| p_ (iy (g:=b3) (o:=.cells #[.slice none 0 0] 28) (ak a9) hg (Kd.fV a5.out a9.out (by decide))) <| p_ (iy (g:=ac) (o:=.cells #[xq] 28) (ak a6) hg (Kd.fV a5.out a6.out (by decide))) <| p_ (hb) <| a_ (ho)
  clear ho hb hg hat
  obtain ⟨eh,ei,dt⟩:=Kd.dK cz.out
  (first|subst dt|(injection dt with dV gU dW;have gV:=dV.symm;have gW:=dW.symm;clear dV gU dW;subst gV;subst gW))
  refine hK.out _ _ ⟨(aP a6.out 0).trans rfl,(aP a7.out 0).trans rfl,((HB.out.cell (World.block_lt_of_cell? w _ av)).trans av),((HB.out.cell (World.block_lt_of_cell? w _ aW)).trans aW),((HB.out.cell (World.block_lt_of_cell? w _ ar)).trans ar)⟩ (fun hH=>?_)
  clear hK K
  refine eX (some 52) ?_
  refine bV 9 ?_
  refine xQ 10 (fun K hK=>?_)
  have aiL:fk.cell? ⟨ac,0,none⟩=some (xq):=(aP a6.out 0).trans rfl
  have af2:=bP a6.out 0
  obtain ⟨al,an,ap,aQ,am,ao⟩:=kJ ae ag ai af aK aN
  refine iM (w1:=?_) (by rfl) rfl ?_ ?_
  rotate_left
  ·go_simp
   rfl
  refine hK.out _ _ ?_
  clear hK K
  refine iP (ku aO.out aB) ?_
  try go_wp2
  go_roundg Nl
  case measure=>have:=gZ.out;have:=Ba.out;omega
  case rel=>exact ⟨(ca),(wrap64 (a8+1)),(d6),(.slice eh d6.length ei),bg,bg,H',⟨(by have:=gZ.out;have:=Ba.out;omega)⟩,⟨(by (with_reducible repeat (first|apply Kd.dB|apply Kd.dD|apply Kd.aZ));exact Kd.bn (aH (Kd.bQ cz.out a6.out (by decide))) (fun _ hk=>hk.1))⟩,⟨aT⟩,⟨aT⟩,⟨aT⟩,⟨aT⟩,⟨au⟩⟩
 subst e5
 rw [if_pos rfl] at H
 obtain ⟨fc,H⟩:=kV H
 have du:=m_ fc
 clear fc
 obtain ⟨b1,dv,H⟩:=vH H
 obtain ⟨fe,H⟩:=gK H
 obtain ⟨fg,H⟩:=gK H
 have jU:=m_ H
 clear H
 obtain ⟨aQ,al,am,an,ao,ap⟩:=kJ af ae aK ag aN ai
 have Ku:=dh a6.out
 obtain ⟨b5,b4,bw,bv⟩:=g_ dM fA bj bl
 have ej:=uw kP.out
 try go_wp2_with (first|((with_reducible refine xH (b:=.append) (xs:=#[.tmp 30,.tmp 32]) rfl ?_);at_builtin;refine Kd.CX aU (w0:=w) w.heap.size rfl (.tmp 30) (.tmp 32) 26 43 (.agg #[(.string ⟨#[]⟩),(.bool false),(.string ⟨#[]⟩)]) 40 rfl underlying26 pV rfl (by decide) (by omega) xq aa (⟨fG,fE,fC⟩:aF) [.string fG,.bool fE,.string fC] (fun ay=>ay≠uK) (fun _=>False) rfl rfl ?sW (fun _ hk=>hk.elim) ?kT ?kG ?lu ?kH ?aL ?_;(case sW=>exact qp _ _ _ (⟨fG,fE,fC⟩:aF));(case lu=>exact au);(case kT=>exact Oc);(case kG=>exact (aJ a5));(case kH=>exact (cZ au));(case aL=>have:=du.out;omega);intro azV d9 ho hb hg hat;rw [← dv.out] at ho;obtain ⟨a7,kP,a9,a6,HB,ab⟩:=p_ (iy (g:=b0) (o:=.cells #[.slice cd aI.length b2] 28) (ak a7) hg (Kd.fV a5.out a7.out (by decide))) <| p_ (iy (g:=uK) (o:=.cells #[.string fG,.bool fE,.string fC] 43) (ak kP) hg (Kd.rC a5.out (fun _ hk=>hk))) <| p_ (iy (g:=b3) (o:=.cells #[.slice none 0 0] 28) (ak a9) hg (Kd.fV a5.out a9.out (by decide))) <| p_ (iy (g:=ac) (o:=.cells #[xq] 28) (ak a6) hg (Kd.fV a5.out a6.out (by decide))) <| p_ (hb) <| a_ (ho);clear ho hb hg hat;obtain ⟨jf,jg,ek⟩:=Kd.dK ab.out;subst ek;have ak7:=dh a6.out))
 have eF:aA (Kd.R aU 43 (d9.setCell ⟨ac,0,none⟩ (.slice jf b1.length jg)) w.heap.size (fun ay=>ay≠uK) (.slice jf b1.length jg) b1):=⟨(by (with_reducible repeat (first|apply Kd.dB|apply Kd.dD|apply Kd.aZ));exact Kd.bn (aH (Kd.bQ ab.out a6.out (by decide))) (fun _ hk=>hk.1))⟩
 have jF:aA ((d9.setCell ⟨ac,0,none⟩ (.slice jf b1.length jg)).heap[b0]?=some (.cells #[.slice cd aI.length b2] 28)):=⟨aT⟩
 have jG:aA ((d9.setCell ⟨ac,0,none⟩ (.slice jf b1.length jg)).heap[uK]?=some (.cells #[.string fG,.bool fE,.string fC] 43)):=⟨aT⟩
 have jH:aA ((d9.setCell ⟨ac,0,none⟩ (.slice jf b1.length jg)).heap[b3]?=some (.cells #[.slice none 0 0] 28)):=⟨aT⟩
 have jI:aA ((d9.setCell ⟨ac,0,none⟩ (.slice jf b1.length jg)).heap[ac]?=some (.cells #[.slice jf b1.length jg] 28)):=⟨aT⟩
 have jL:aA (Below w.heap.size w (d9.setCell ⟨ac,0,none⟩ (.slice jf b1.length jg))):=⟨au⟩
 (try clear ab)
 (try clear a7)
 (try clear kP)
 (try clear a9)
 (try clear a6)
 (try clear HB)
 generalize (d9.setCell ⟨ac,0,none⟩ (.slice jf b1.length jg))=fl at eF jF jG jH jI jL ⊢
 have ab:=eF
 have a7:=jF
 have kP:=jG
 have a9:=jH
 have a6:=jI
 have HB:=jL
 clear eF jF jG jH jI jL
 obtain ⟨ab,a7,kP,a9,a6,HB⟩:=p_ (Kd.aZ ab.out) <| wV a7 kP a9 a6 HB
 have da:0≤(a8:Int):=bF bG
 have db:a8 < (aI.length:Int):=bF bG
 obtain ⟨aw,el,bc,bd,be⟩:=kY lq.out a8 da db
 have cm:=be
 have cn:=bd
 have co:=bc
 cases el
 replace bc:=iQ HB.out bc
 replace bd:=iQ HB.out bd
 replace be:=iQ HB.out be
 replace da:=eq_true da
 replace db:=eq_true db
 refine iT (n:=9) (S:=fun w'=>jQ w' b0 (.slice (some aw) aI.length b2) <| Kv w' uK (.string fG) (.bool fE) (.string fC) <| xX w' (aw.add ((a8).toNat * 3)) (.string ((aC aI a8).f0)) (.bool ((aC aI a8).f1)) (.string ((aC aI a8).f2))) (ds:=[]) EP aB rfl rfl ⟨(aP a7.out 0).trans rfl,Ld kP.out ⟨((HB.out.cell (World.block_lt_of_cell? w _ co)).trans co),((HB.out.cell (World.block_lt_of_cell? w _ cn)).trans cn),((HB.out.cell (World.block_lt_of_cell? w _ cm)).trans cm)⟩⟩ (fun hH=>?_);refine kE jd.J7 jd.IU (fun aO fJ=>?_)
 generalize fl.drew=fm at ab a7 kP a9 a6 HB bc bd be hH ⊢
 refine bV 0 ?_
 refine bV 2 ?_
 refine bV 6 ?_
 refine lg 1 hH ?_
 refine bV 3 ?_
 refine bV 4 ?_
 refine lg 5 hH ?_
 refine lg 7 hH ?_
 refine bV 8 ?_
 refine iP (ku aO.out aB) ?_
 go_upto_if 43 with (fail)
 (try clear b4 al b5 bw an bv ap aQ am ao)
 (try clear ej)
 (try clear bc bd be)
 obtain ⟨H⟩:=jU
 revert H;refine fH (fun dd H=>?_) fun dd H=>?_
 ·have cf:=fZ dd
  have dx:=f_ dd
  clear dd
  try simp only [aY,bf,cf]
  have H':=m_ H
  clear H
  go_wp2
  go_roundg Nl
  case measure=>have:=gZ.out;have:=Ba.out;omega
  case rel=>exact ⟨(true),(wrap64 (a8+1)),(b1),(.slice jf b1.length jg),bg,bg,H',⟨(by have:=gZ.out;have:=Ba.out;omega)⟩,⟨(aJ ab)⟩,⟨(ak a7)⟩,⟨(ak kP)⟩,⟨(ak a9)⟩,⟨(ak a6)⟩,⟨au⟩⟩
 have cf:=fP dd
 have dx:=fQ dd
 try simp only [aY,bf,cf]
 obtain ⟨fh,H⟩:=kV H
 have dy:=m_ fh
 clear fh
 obtain ⟨de,ct⟩:∃ y_:List (aF),y_=(b1++[(⟨(aC aI a8).f0,(aC aI a8).f1,(aC aI a8).f2⟩:aF)]):=⟨_,rfl⟩
 rw [← ct] at H
 have dz:=m_ ct
 clear ct
 have H':=m_ H
 clear H
 try go_wp2
 obtain ⟨ab,a7,kP,a9,a6,HB⟩:=p_ (Kd.aZ ab.out) <| wV a7 kP a9 a6 HB
 have df:0≤(a8:Int):=bF bG
 have dg:a8 < (aI.length:Int):=bF bG
 obtain ⟨e0,em,bp,bq,br⟩:=kY lq.out a8 df dg
 have ax:=br
 have bH:=bq
 have az:=bp
 obtain rfl:aw=e0:=(by injection em)
 replace bp:=iQ HB.out bp
 replace bq:=iQ HB.out bq
 replace br:=iQ HB.out br
 replace df:=eq_true df
 replace dg:=eq_true dg
 refine iT (n:=11) (S:=fun w'=>jQ w' ac (.slice jf b1.length jg) <| jQ w' b0 (.slice (some aw) aI.length b2) <| xX w' (aw.add ((a8).toNat * 3)) (.string ((aC aI a8).f0)) (.bool ((aC aI a8).f1)) (.string ((aC aI a8).f2))) (ds:=[10]) Bl aB rfl rfl ⟨(aP a6.out 0).trans rfl,(aP a7.out 0).trans rfl,((HB.out.cell (World.block_lt_of_cell? w _ az)).trans az),((HB.out.cell (World.block_lt_of_cell? w _ bH)).trans bH),((HB.out.cell (World.block_lt_of_cell? w _ ax)).trans ax)⟩ (fun hH=>?_);refine kE jd.J6 jd.IL (fun aO fJ=>?_)
 generalize fm.drew=fy at ab a7 kP a9 a6 HB bp bq br hH ⊢
 refine bV 0 ?_
 refine bV 2 ?_
 refine bV 4 ?_
 refine lg 1 hH ?_
 refine lg 3 hH ?_
 refine bV 5 ?_
 refine lg 6 hH ?_
 refine oZ 7 (fun K hK=>?_)
 refine Oh (w1:=?_) (v:=?_) (by rfl) rfl ?_ ?_
 rotate_left 2
 ·go_simp
  constructor
  ·rfl
  ·rfl
 refine hK.out _ _ ⟨(aP (kU a6.out _) 0).trans rfl,(aP (kU a7.out _) 0).trans rfl,(World.cell?_alloc_lt _ _ _ (World.block_lt_of_cell? _ _ (((HB.out.cell (World.block_lt_of_cell? w _ az)).trans az)))).trans (((HB.out.cell (World.block_lt_of_cell? w _ az)).trans az)),(World.cell?_alloc_lt _ _ _ (World.block_lt_of_cell? _ _ (((HB.out.cell (World.block_lt_of_cell? w _ bH)).trans bH)))).trans (((HB.out.cell (World.block_lt_of_cell? w _ bH)).trans bH)),(World.cell?_alloc_lt _ _ _ (World.block_lt_of_cell? _ _ (((HB.out.cell (World.block_lt_of_cell? w _ ax)).trans ax)))).trans (((HB.out.cell (World.block_lt_of_cell? w _ ax)).trans ax))⟩ (fun hH=>?_)
 clear hK K
 refine eX (some 51) ?_
 refine oZ 8 (fun K hK=>?_)
 refine Kd.KO aU (w0:=w) w.heap.size (by rfl) (.tmp 45) (.tmp 51) 26 43 (.agg #[(.string ⟨#[]⟩),(.bool false),(.string ⟨#[]⟩)]) 40 rfl underlying26 pV rfl (by decide) (by omega) (.slice jf b1.length jg) b1 (⟨(aC aI a8).f0,(aC aI a8).f1,(aC aI a8).f2⟩:aF) [.string ((aC aI a8).f0),.bool ((aC aI a8).f1),.string ((aC aI a8).f2)] (fun ay=>ay≠uK) (fun _=>False) rfl rfl ?sW (fun _ hk=>hk.elim) ?kT ?kG ?lu ?kH ?aL ?_
 (case sW=>exact qp _ _ _ (⟨(aC aI a8).f0,(aC aI a8).f1,(aC aI a8).f2⟩:aF))
 (case lu=>exact au)
 (case kT=>exact Oc)
 (case kG=>exact (aJ ab))
 (case kH=>exact (cZ au))
 (case aL=>have:=dy.out;omega)
 intro azW fo ho hb hg hat
 rw [← dz.out] at ho
 obtain ⟨a7,kP,a9,a6,HB,d0⟩:=p_ (iy (g:=b0) (o:=.cells #[.slice (some aw) aI.length b2] 28) (ak a7) hg (Kd.fV ab.out a7.out (by decide))) <| p_ (iy (g:=uK) (o:=.cells #[.string fG,.bool fE,.string fC] 43) (ak kP) hg (Kd.rC ab.out (fun _ hk=>hk))) <| p_ (iy (g:=b3) (o:=.cells #[.slice none 0 0] 28) (ak a9) hg (Kd.fV ab.out a9.out (by decide))) <| p_ (iy (g:=ac) (o:=.cells #[.slice jf b1.length jg] 28) (ak a6) hg (Kd.fV ab.out a6.out (by decide))) <| p_ (hb) <| a_ (ho)
 clear ho hb hg hat
 obtain ⟨en,eo,e3⟩:=Kd.dK d0.out
 (first|subst e3|(injection e3 with dV gU dW;have gV:=dV.symm;have gW:=dW.symm;clear dV gU dW;subst gV;subst gW))
 refine hK.out _ _ ⟨(aP a6.out 0).trans rfl,(aP a7.out 0).trans rfl,((HB.out.cell (World.block_lt_of_cell? w _ az)).trans az),((HB.out.cell (World.block_lt_of_cell? w _ bH)).trans bH),((HB.out.cell (World.block_lt_of_cell? w _ ax)).trans ax)⟩ (fun hH=>?_)
 clear hK K
 refine eX (some 52) ?_
 refine bV 9 ?_
 refine xQ 10 (fun K hK=>?_)
 have aiI:fo.cell? ⟨ac,0,none⟩=some (.slice jf b1.length jg):=(aP a6.out 0).trans rfl
 have afY:=bP a6.out 0
 refine iM (w1:=?_) (by rfl) rfl ?_ ?_
 rotate_left
 ·go_simp
  rfl
 refine hK.out _ _ ?_
 clear hK K
 refine iP (ku aO.out aB) ?_
 try go_wp2
 go_roundg Nl
 case measure=>have:=gZ.out;have:=Ba.out;omega
 case rel=>exact ⟨(true),(wrap64 (a8+1)),(de),(.slice en de.length eo),bg,bg,H',⟨(by have:=gZ.out;have:=Ba.out;omega)⟩,⟨(by (with_reducible repeat (first|apply Kd.dB|apply Kd.dD|apply Kd.aZ));exact Kd.bn (aH (Kd.bQ d0.out a6.out (by decide))) (fun _ hk=>hk.1))⟩,⟨aT⟩,⟨aT⟩,⟨aT⟩,⟨aT⟩,⟨au⟩⟩

end Go.Proofs.YthejdhjpbpamoaaGreatDoor.jD
