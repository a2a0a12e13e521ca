/- Contracts of Go functions: each call returns what the Lean function beside it computes. Conditions: as each theorem states them. -/
import Derived.Test.YthejdhjpbpamoaaGreatDoorPkFnCodes
import Derived.Test.YthejdhjpbpamoaaGreatDoorPFnCodesx1
import Derived.Test.YthejdhjpbpamoaaGreatDoorPFnCodesx6
namespace Go.Proofs.YthejdhjpbpamoaaGreatDoor.jD
open Go.RowKit Go.Proofs.YthejdhjpbpamoaaGreatDoorW.iw Go.Proofs.YthejdhjpbpamoaaGreatDoorW.lH Go.Proofs.YthejdhjpbpamoaaGreatDoorW.oO Go.Proofs.Tryz
attribute [local go_sem] qw qB qA qF qy qE qx qC   -- for this text's walks alone
set_option linter.unusedVariables false
set_option maxHeartbeats 8000000
set_option maxRecDepth 100000
set_option linter.unusedSimpArgs false

def I8.f (a0:ByteArray) (a1:ByteArray):Option (Int):=(cmp_isNaN_string.f a0).bind fun a6=>((cmp_isNaN_string.f a1).bind fun a5=>(if a6=true then (if a5=true then (some 0) else (some (-1))) else (if a5=true then (some 1) else (if (Op.bytesLess a0.toList a1.toList)=true then (some (-1)) else (if (Op.bytesLess a1.toList a0.toList)=true then (some 1) else (some 0))))))
theorem I8.calls (a0:ByteArray) (a1:ByteArray) (r:Int) (w:World) (h:I8.f a0 a1=some r) :
  Calls Tryz.prog 49 #[.string a0,.string a1] w fun e w'=>e=.returned (ah r)∧nU w w':=by
 unfold I8.f at h
 have H:=h
 clear h
 obtain ⟨a9,A3,H⟩:=bd_ H
 obtain ⟨a7,A4,H⟩:=bd_ H
 have aa:=m_ H
 clear H
 go_enter func49,ntmps49
 go_upto_if 11 with (first|((with_reducible refine bT 97 ?_);refine bU (some 8) rfl rfl func97 aB rfl #[.string a0] rfl aX ?_;(with_reducible refine (cmp_isNaN_string.calls a0 a9 _ A3.out).mono ?_);rintro e w' ⟨rfl,⟨nd,rfl⟩⟩;refine ⟨_,rfl,?_⟩)|((with_reducible refine bT 97 ?_);refine bU (some 10) rfl rfl func97 aB rfl #[.string a1] rfl aX ?_;(with_reducible refine (cmp_isNaN_string.calls a1 a7 _ A4.out).mono ?_);rintro e w' ⟨rfl,⟨nd,rfl⟩⟩;refine ⟨_,rfl,?_⟩))
 (try simp only [Act.put,List.setIfInBounds_toArray,List.set_cons_zero,List.set_cons_succ])
 obtain ⟨H⟩:=aa
 by_cases c6:a9=true
 ·subst c6
  rw [if_pos rfl] at H
  by_cases c7:a7=true
  ·subst c7
   rw [if_pos rfl] at H
   obtain rfl:=dF H
   go_wp2
   go_ret
   exact ⟨bg,kN⟩
  replace c7:=Bool.eq_false_iff.mpr c7
  subst c7
  rw [if_neg iI] at H
  obtain rfl:=dF H
  go_wp2
  go_ret
  exact ⟨bg,kN⟩
 replace c6:=Bool.eq_false_iff.mpr c6
 subst c6
 rw [if_neg iI] at H
 by_cases c8:a7=true
 ·subst c8
  rw [if_pos rfl] at H
  obtain rfl:=dF H
  go_wp2
  go_ret
  exact ⟨bg,kN⟩
 replace c8:=Bool.eq_false_iff.mpr c8
 subst c8
 rw [if_neg iI] at H
 revert H;refine fH (fun c9 H=>?_) fun c9 H=>?_
 ·have a5:(Op.bytesLess a0.toList a1.toList)=true:=c9
  clear c9
  (first|rw [a5]|(simp only [aY,bf];rw [a5])|rw [zH,a5]|rw [Bh,a5]|skip)
  obtain rfl:=dF H
  go_wp2
  go_ret
  exact ⟨bg,kN⟩
 have a5:(Op.bytesLess a0.toList a1.toList)=false:=by simpa using c9
 clear c9
 (first|rw [a5]|(simp only [aY,bf];rw [a5])|rw [zH,a5]|rw [Bh,a5]|skip)
 revert H;refine fH (fun a8 H=>?_) fun a8 H=>?_
 ·have a6:(Op.bytesLess a1.toList a0.toList)=true:=a8
  have acK:(!(a0.toList == a1.toList))=true:=by have bY:=Bh a1.toList a0.toList;rw [a5,a6] at bY;simpa using bY
  clear a8
  obtain rfl:=dF H
  go_wp2
  go_ret
  exact ⟨bg,kN⟩
 have a6:(Op.bytesLess a1.toList a0.toList)=false:=by simpa using a8
 have acK:(!(a0.toList == a1.toList))=false:=by have bY:=Bh a1.toList a0.toList;rw [a5,a6] at bY;simpa using bY
 clear a8
 obtain rfl:=dF H
 go_wp2
 go_ret
 exact ⟨bg,kN⟩

def vJ.f (a5:ByteArray) (a8:Bool) (a9:ByteArray) (a6:ByteArray) (aa:Bool) (ab:ByteArray):Option (Int):=(I8.f a5 a6).bind fun a7=>(some a7)
theorem vJ.calls (a8:ByteArray) (a9:Bool) (aa:ByteArray) (fG:ByteArray) (fE:Bool) (fC:ByteArray) (r:Int) (w:World) (h:vJ.f a8 a9 aa fG fE fC=some r) :
  Calls Tryz.prog 48 #[.agg #[.string a8,.bool a9,.string aa],.agg #[.string fG,.bool fE,.string fC]] w fun e w'=>e=.returned (ah r)∧Below w.heap.size w w':=by
 have uf:=underlying43
 have HB:=m_ (Below.refl w.heap.size w)
 unfold vJ.f at h
 have H:=h
 clear h
 obtain ⟨af,A3,H⟩:=bd_ H
 obtain rfl:=dF H
 go_enter func48,ntmps48
 go_wp2_with (first|((with_reducible refine dJ 2 ?_);refine dO 2 (cs:=#[.string a8,.bool a9,.string aa]) 43 ?_;intro ag hg w4 hbox hb;obtain ⟨HB,a5,aK,ai⟩:=kL au hb hbox hg;clear hb hbox hg)|((with_reducible refine dJ 3 ?_);refine dO 3 (cs:=#[.string fG,.bool fE,.string fC]) 43 ?_;intro aN hg w5 hbox hb;obtain ⟨a5,HB,ab,aQ,al,a6,a7⟩:=pq (ak a5) au hb hbox hg;clear hb hbox hg;obtain ⟨ac,ae⟩:=gB a6 a7;have am:=uw a5.out;have an:=uw ab.out)|((with_reducible refine bT 49 ?_);refine bU (some 9) rfl rfl func49 aB rfl #[.string a8,.string fG] rfl aX ?_;(with_reducible refine (I8.calls a8 fG af _ A3.out).mono ?_);rintro e w' ⟨rfl,⟨nd,rfl⟩⟩;refine ⟨_,rfl,?_⟩))
 go_ret
 exact ⟨bM,au⟩

mutual
def mJ.l0:Nat→List (aF)→Int→Int→Int→Option ((List (aF)))
 | 0,_,_,_,_=>none
 | k+1,x0,x1,x2,gX=>if gX < x2 then (mJ.l1 k x0 x1 x2 gX gX) else (some x0)
def mJ.l1:Nat→List (aF)→Int→Int→Int→Int→Option ((List (aF)))
 | 0,_,_,_,_,_=>none
 | k+1,x0,x1,x2,gX,mP=>if mP > x1 then (if 0≤mP then (if mP < (x0.length:Int) then (if 0≤(wrap64 (mP - 1)) then (if (wrap64 (mP - 1)) < (x0.length:Int) then ((vJ.f ((aC x0 mP).f0) ((aC x0 mP).f1) ((aC x0 mP).f2) ((aC x0 (wrap64 (mP - 1))).f0) ((aC x0 (wrap64 (mP - 1))).f1) ((aC x0 (wrap64 (mP - 1))).f2)).bind fun a5=>(if a5 < 0 then (mJ.l1 k ((x0.set (mP:Int).toNat (⟨(aC x0 (wrap64 (mP - 1))).f0,(aC x0 (wrap64 (mP - 1))).f1,(aC x0 (wrap64 (mP - 1))).f2⟩:aF)).set ((wrap64 (mP - 1)):Int).toNat (⟨(aC x0 mP).f0,(aC x0 mP).f1,(aC x0 mP).f2⟩:aF)) x1 x2 gX (wrap64 (mP - 1))) else (mJ.l0 k x0 x1 x2 (wrap64 (gX+1))))) else (none)) else (none)) else (none)) else (none)) else (mJ.l0 k x0 x1 x2 (wrap64 (gX+1)))
end
def mJ.f (k:Nat) (l0:List (aF)) (a1:Int) (a2:Int) (a3:Unit):Option ((List (aF))):=mJ.l0 k l0 a1 a2 (wrap64 (a1+1))
def mJ.T4:Bool × List (List Nat × List Nat):=(true,[([],[]),([],[]),([0,1],[0,1]),([2],[2]),([3],[3]),([3],[3]),([3],[3]),([5,6,3],[3,5,6]),([7,3],[3,7]),([3],[3]),([3],[3]),([10,3],[3,10]),([9,11,3],[3,9,11]),([12,3],[3,12]),([4,8,13,3,3],[3,4,8,13]),([14,3],[3,14]),([3,15],[3,15])])
def mJ.B4:List Nat:=[0,0,3,7,15,15,15,111,239,15,15,1039,3599,7695,16383,32767,65535]
theorem mJ.aaf:kZ .any (opsOf Tryz.f132 4)=mJ.T4:=by kernel_rfl
theorem mJ.Vz:uS mJ.T4.2 mJ.B4=true:=by kernel_rfl
def mJ.T6:Bool × List (List Nat × List Nat):=(true,[([],[]),([],[]),([],[]),([],[]),([3],[3]),([],[]),([],[]),([6],[6]),([5,7],[5,7]),([8],[8]),([],[]),([],[]),([10,11],[10,11]),([12],[12]),([0,1,0,1,5,6,7,8,9,13],[0,1]),([14,9,0,1,5,6,7,8,9,13],[9,14]),([2,4,0,1,2,3,4,5,6,7,8,9,10,11,12,13,14,15],[2,4]),([16,13,15,0,1,2,3,4,5,6,7,8,9,10,11,12,13,14,15],[13,16])])
def mJ.B6:List Nat:=[0,0,0,0,8,0,0,64,224,480,0,0,3072,7168,16355,32739,65535,131071]
theorem mJ.calls (k:Nat) (dU:Nat→Prop) (je:Value) (l0:List (aF)) (a1:Int) (a2:Int) (a3:Unit) (r:List (aF)) (w0 w:World) (hB:Below w0.heap.size w0 w) (ho0:Kd.R aU 43 w w0.heap.size dU je l0) (h:mJ.f k l0 a1 a2 a3=some r) :
  Calls Tryz.prog 132 #[je,ah a1,ah a2,.func (.func 48) #[] #[]] w fun e w'=>e=.returned (.tuple #[])∧Kd.R aU 43 w' w0.heap.size (fun ay=>(dU ay∨w.heap.size≤ay)) je r∧Below w0.heap.size w0 w'∧Kept w w' (fun ay=>dU ay):=by
 have uf:=underlying43
 have d2:=m_ (show Kd.R aU 43 w w0.heap.size (fun ay=>(dU ay∨w.heap.size≤ay)) je l0 from Kd.bn ho0 (fun ay hk=>(.inl hk)))
 have HK:=m_ (Kept.refl w (fun ay=>dU ay))
 have HW0:=m_ hB.size
 have HB:=m_ hB
 clear hB
 unfold mJ.f at h
 have H:=h
 clear h
 have H':=m_ H
 clear H
 go_enter func132,ntmps132
 go_wp2
 go_loopg [8] k (fun kq v8 w'=>∃ (ax:List (aF)) (dH:Int),v8=ah dH∧aA (mJ.l0 kq ax a1 a2 dH=some r)∧aA (kq≤k)∧aA (Kd.R aU 43 w' w0.heap.size (fun ay=>(dU ay∨w.heap.size≤ay)) je ax)∧aA (Kept w w' (fun ay=>dU ay))∧aA (Below w0.heap.size w0 w'))
 case atStart=>exact ⟨(l0),(wrap64 (a1+1)),bg,H',⟨Nat.le_refl _⟩,⟨(aJ d2)⟩,⟨jc⟩,⟨au⟩⟩
 case round =>
 clear H'
 obtain ⟨ax,dH,rfl,HA,gZ,bJ,HK,HB⟩:=hrel
 cases gk with
 | zero=>exact absurd HA.out (by simp [mJ.l0])
 | succ k1 =>
 obtain ⟨H⟩:=HA
 simp only [mJ.l0] at H
 revert H;refine gJ (fun bp H=>?_) fun bp H=>?_
 rotate_left
 ·obtain rfl:=dF H
  go_wp2
  first|go_end0|((try simp only [Exit.inBlock,Exit.then]);refine bodyPost_ret (results_none rfl _ _ _) rfl ?_)
  exact ⟨bM,(aJ bJ),au,jc⟩
 have H':=m_ H
 clear H
 go_wp2
 go_loopg [9] k1 (fun kq v9 w'=>∃ (a5:List (aF)) (a6:Int),v9=ah a6∧aA (mJ.l1 kq a5 a1 a2 dH a6=some r)∧aA (kq≤k1)∧aA (Kd.R aU 43 w' w0.heap.size (fun ay=>(dU ay∨w.heap.size≤ay)) je a5)∧aA (Kept w w' (fun ay=>dU ay))∧aA (Below w0.heap.size w0 w'))
 case atStart=>exact ⟨(ax),(dH),bg,H',⟨Nat.le_refl _⟩,⟨(aJ bJ)⟩,⟨jc⟩,⟨au⟩⟩
 case round =>
 clear H'
 try clear c5;try clear bp
 obtain ⟨a5,a6,rfl,HA,jM,bJ,HK,HB⟩:=hrel
 cases gk with
 | zero=>exact absurd HA.out (by simp [mJ.l1])
 | succ k2 =>
 obtain ⟨H⟩:=HA
 simp only [mJ.l1] at H
 revert H;refine gJ (fun co H=>?_) fun co H=>?_
 rotate_left
 ·have H':=m_ H
  clear H
  try go_wp2
  obtain ⟨bJ,HK,HB⟩:=p_ (Kd.aZ bJ.out) <| p_ (Kept.drew HK.out) <| a_ (lC HB.out)
  refine iT (n:=17) (S:=fun w'=>True) (ds:=[]) Ls aB rfl rfl trivial (fun hH=>?_);refine kE mJ.aaf mJ.Vz (fun aO fJ=>?_)
  generalize wr.drew=dg at bJ HK HB hH ⊢
  refine bV 0 ?_
  refine bV 1 ?_
  refine bV 2 ?_
  refine bV 3 ?_
  refine jW 4 ?_
  refine jW 5 ?_
  refine jW 6 ?_
  refine jW 7 ?_
  refine jW 8 ?_
  refine jW 9 ?_
  refine jW 10 ?_
  refine jW 11 ?_
  refine jW 12 ?_
  refine jW 13 ?_
  refine jW 14 ?_
  refine jW 15 ?_
  refine bV 16 ?_
  refine iP (ku aO.out aB) ?_
  try go_wp2
  go_roundg k2
  case measure=>have:=gZ.out;have:=jM.out;omega
  case rel=>exact ⟨(a5),(wrap64 (dH+1)),bg,H',⟨J8⟩,⟨(aJ bJ)⟩,⟨jc⟩,⟨au⟩⟩
 obtain ⟨d3,H⟩:=gK H
 obtain ⟨d4,H⟩:=gK H
 obtain ⟨iC,Jh⟩:∃ lU:Int,(wrap64 (a6 - 1))=lU:=⟨_,rfl⟩
 replace H:(if 0≤(iC) then (if (iC) < (a5.length:Int) then ((vJ.f ((aC a5 a6).f0) ((aC a5 a6).f1) ((aC a5 a6).f2) ((aC a5 (iC)).f0) ((aC a5 (iC)).f1) ((aC a5 (iC)).f2)).bind fun bH=>(if bH < 0 then (mJ.l1 k2 ((a5.set (a6:Int).toNat (⟨(aC a5 (iC)).f0,(aC a5 (iC)).f1,(aC a5 (iC)).f2⟩:aF)).set ((iC):Int).toNat (⟨(aC a5 a6).f0,(aC a5 a6).f1,(aC a5 a6).f2⟩:aF)) a1 a2 dH iC) else (mJ.l0 k2 a5 a1 a2 (wrap64 (dH+1))))) else (none)) else (none))=some r:=by first|(rw [Jh] at H;exact H)|(simp only [Jh] at H ⊢;exact H)
 have awP:(IntKind.i64.wrap (a6 - 1))=iC:=(aY _).trans Jh
 obtain ⟨cz,H⟩:=gK H
 obtain ⟨d1,H⟩:=gK H
 obtain ⟨bH,d5,H⟩:=bd_ H
 have bq:=m_ H
 clear H
 try go_wp2
 obtain ⟨bJ,HK,HB⟩:=p_ (Kd.aZ bJ.out) <| p_ (Kept.drew HK.out) <| a_ (lC HB.out)
 obtain ⟨d6,d7,br⟩:=Kd.dK bJ.out
 (first|subst br|(injection br with dV gU dW;have gV:=dV.symm;have gW:=dW.symm;clear dV gU dW;subst gV;subst gW))
 have b3:0≤(a6:Int):=bF bG
 have b4:a6 < (a5.length:Int):=bF bG
 obtain ⟨a8,cp,a9,aa,ab⟩:=kY (Kd.dN bJ.out).2.2 a6 b3 b4
 cases cp
 replace b3:=eq_true b3
 replace b4:=eq_true b4
 have b5:0≤((iC):Int):=bF bG
 have b6:(iC) < (a5.length:Int):=bF bG
 obtain ⟨bs,cq,ac,ae,af⟩:=kY (Kd.dN bJ.out).2.2 (iC) b5 b6
 obtain rfl:a8=bs:=(by injection cq)
 replace b5:=eq_true b5
 replace b6:=eq_true b6
 refine iT (n:=17) (S:=fun w'=>Ky w' (a8.add ((a6).toNat * 3)) (.string ((aC a5 a6).f0)) (.bool ((aC a5 a6).f1)) (.string ((aC a5 a6).f2)) <| xX w' (a8.add (((iC)).toNat * 3)) (.string ((aC a5 (iC)).f0)) (.bool ((aC a5 (iC)).f1)) (.string ((aC a5 (iC)).f2))) (ds:=[]) Ls aB rfl rfl ⟨a9,aa,ab,ac,ae,af⟩ (fun hH=>?_);refine kE mJ.aaf mJ.Vz (fun aO fJ=>?_)
 generalize wr.drew=lN at bJ HK HB a9 aa ab ac ae af hH ⊢
 refine bV 0 ?_
 refine bV 1 ?_
 refine bV 2 ?_
 refine bV 3 ?_
 refine bV 4 ?_
 refine bV 5 ?_
 refine bV 6 ?_
 refine bV 7 ?_
 refine bV 9 ?_
 refine cu 10 28 #[aj,aj,aj,aj,aj,aj,aj,aj,F_,aj,aj,F_,F_,F_,F_,F_,F_] aO ?_
 refine cu 11 29 #[aj,aj,aj,aj,aj,aj,aj,aj,F_,aj,aj,aj,F_,F_,F_,F_,F_] aO ?_
 refine cu 12 30 #[aj,aj,aj,aj,aj,aj,aj,aj,F_,aj,aj,aj,aj,F_,F_,F_,F_] aO ?_
 refine lg 8 hH ?_
 refine lg 13 hH ?_
 refine oZ 14 (fun K hK=>?_)
 refine LD func48 aB rfl #[.agg #[.string ((aC a5 a6).f0),.bool ((aC a5 a6).f1),.string ((aC a5 a6).f2)],.agg #[.string ((aC a5 (iC)).f0),.bool ((aC a5 (iC)).f1),.string ((aC a5 (iC)).f2)]] (by rfl) rfl rfl (by rfl) (by (try simp only [List.map_toArray,List.map_cons,List.map_nil]);first|done|(simp only [Jh];rfl)|rfl|(simp only [List.length_drop,List.length_take];rfl)) ?_
 with_reducible refine (vJ.calls ((aC a5 a6).f0) ((aC a5 a6).f1) ((aC a5 a6).f2) ((aC a5 (iC)).f0) ((aC a5 (iC)).f1) ((aC a5 (iC)).f2) bH _ d5.out).mono ?_
 rintro e d8 ⟨rfl,hb⟩
 have Cm:=(hb.cell (World.block_lt_of_cell? _ _ (hH.1))).trans (hH.1)
 have CB:=(hb.cell (World.block_lt_of_cell? _ _ (hH.2.1))).trans (hH.2.1)
 have CG:=(hb.cell (World.block_lt_of_cell? _ _ (hH.2.2.1))).trans (hH.2.2.1)
 have CJ:=(hb.cell (World.block_lt_of_cell? _ _ (hH.2.2.2.1))).trans (hH.2.2.2.1)
 have CO:=(hb.cell (World.block_lt_of_cell? _ _ (hH.2.2.2.2.1))).trans (hH.2.2.2.2.1)
 have nM:=(hb.cell (World.block_lt_of_cell? _ _ (hH.2.2.2.2.2))).trans (hH.2.2.2.2.2)
 refine ⟨_,rfl,?_⟩
 obtain ⟨bJ,HK,HB⟩:=p_ (Kd.dw (aJ bJ) hb) <| p_ (Kept.below (S:=(fun ay=>dU ay)) jc hb) <| a_ (dP au hb)
 (try clear hb)
 refine hK.out _ _ ⟨Cm,CB,CG,CJ,CO,nM⟩ (fun hH=>?_)
 clear hK K
 refine eX (some 32) ?_
 refine bV 15 ?_
 refine bV 16 ?_
 refine iP (ku aO.out aB) ?_
 go_upto_if 34 with (fail)
 obtain ⟨H⟩:=bq
 revert H;refine gJ (fun am H=>?_) fun am H=>?_
 rotate_left
 ·try simp only [aY,bf,am]
  have H':=m_ H
  clear H
  go_wp2
  go_roundg k2
  case measure=>have:=gZ.out;have:=jM.out;omega
  case rel=>exact ⟨(a5),(wrap64 (dH+1)),bg,H',⟨J8⟩,⟨(aJ bJ)⟩,⟨jc⟩,⟨au⟩⟩
 try simp only [aY,bf,am]
 obtain ⟨aW,av⟩:∃ y_:List (aF),y_=(a5.set (a6:Int).toNat (⟨(aC a5 (iC)).f0,(aC a5 (iC)).f1,(aC a5 (iC)).f2⟩:aF)):=⟨_,rfl⟩
 rw [← av] at H
 have bu:=m_ av
 clear av
 obtain ⟨bv,aw⟩:∃ y_:List (aF),y_=(aW.set ((iC):Int).toNat (⟨(aC a5 a6).f0,(aC a5 a6).f1,(aC a5 a6).f2⟩:aF)):=⟨_,rfl⟩
 rw [← aw] at H
 have bw:=m_ aw
 clear aw
 have H':=m_ H
 clear H
 try go_wp2
 obtain ⟨bJ,HK,HB⟩:=p_ (Kd.aZ bJ.out) <| p_ (Kept.drew HK.out) <| a_ (lC HB.out)
 have b7:0≤((iC):Int):=bF bG
 have b8:(iC) < (a5.length:Int):=bF bG
 obtain ⟨bx,cr,ag,aK,ai⟩:=kY (Kd.dN bJ.out).2.2 (iC) b7 b8
 obtain rfl:a8=bx:=(by injection cr)
 replace b7:=eq_true b7
 replace b8:=eq_true b8
 have b9:0≤(a6:Int):=bF bG
 have ba:a6 < (a5.length:Int):=bF bG
 obtain ⟨bz,ct,aN,aQ,al⟩:=kY (Kd.dN bJ.out).2.2 a6 b9 ba
 obtain rfl:a8=bz:=(by injection ct)
 replace b9:=eq_true b9
 replace ba:=eq_true ba
 have iO:0≤(a6:Int):=bF bG
 have cv:(a6:Int) < ((a5.length:Int):Int):=bF bG
 obtain ⟨a7,d9,ca,cc,cw,da,cd⟩:=Kd.yQ bJ.out (by omega)
 (first|cases ca|(injection ca with kQ uX uV;(first|subst kQ|(injection kQ with kQ;subst kQ));subst uV;clear uX))
 have ar:=m_ cc
 have cx:=m_ cd
 clear cc cw cd
 have EI:=m_ (show (dU a7∨w.heap.size≤a7) from (bJ.out.1 _ rfl))
 (first|simp only [add_plain] at a9|skip)
 (first|simp only [add_plain] at aa|skip)
 (first|simp only [add_plain] at ab|skip)
 (first|simp only [add_plain] at ac|skip)
 (first|simp only [add_plain] at ae|skip)
 (first|simp only [add_plain] at af|skip)
 (first|simp only [add_plain] at ag|skip)
 (first|simp only [add_plain] at aK|skip)
 (first|simp only [add_plain] at ai|skip)
 (first|simp only [add_plain] at aN|skip)
 (first|simp only [add_plain] at aQ|skip)
 (first|simp only [add_plain] at al|skip)
 obtain ⟨db,ce,cf,an,ao⟩:=Kd.oP bJ.out z43 (a6:Int) iO cv
 obtain rfl:=oW cf
 have bb:World.cell? _ ⟨a7,(a6:Int).toNat * 3,none⟩=some (.string ((aC a5 a6).f0)):=an 0 _ rfl
 have bc:World.cell? _ ⟨a7,(a6:Int).toNat * 3+1,none⟩=some (.bool ((aC a5 a6).f1)):=an 1 _ rfl
 have bd:World.cell? _ ⟨a7,(a6:Int).toNat * 3+2,none⟩=some (.string ((aC a5 a6).f2)):=an 2 _ rfl
 have be:World.frozen? _ ⟨a7,(a6:Int).toNat * 3,none⟩=false:=ao 0
 have fA:World.frozen? _ ⟨a7,(a6:Int).toNat * 3+1,none⟩=false:=ao 1
 have dM:World.frozen? _ ⟨a7,(a6:Int).toNat * 3+2,none⟩=false:=ao 2
 clear ce an ao cf
 replace iO:=eq_true iO
 replace cv:=eq_true cv
 obtain ⟨dd,az,cg,b0,ch⟩:=Kd.oP bJ.out z43 (a6:Int) (bF bG) (by have dG:(a6:Int) < ((a5.length:Int):Int):=bF bG;first|exact dG|(have e_:=(Kd.dN bJ.out).1;omega)|simpa using dG)
 obtain rfl:=oW cg
 have OH:=(Kd.yc bJ.out (a6:Int) (bF bG) (by have dG:(a6:Int) < ((a5.length:Int):Int):=bF bG;first|exact dG|(have e_:=(Kd.dN bJ.out).1;omega)|simpa using dG) (seg:=[.string ((aC a5 (iC)).f0),.bool ((aC a5 (iC)).f1),.string ((aC a5 (iC)).f2)]) (j:=0) az b0 (show 3≤3 from by decide) (x':=(⟨(aC a5 (iC)).f0,(aC a5 (iC)).f1,(aC a5 (iC)).f2⟩:aF)) (qp _ _ _ (⟨(aC a5 (iC)).f0,(aC a5 (iC)).f1,(aC a5 (iC)).f2⟩:aF) ) (fun _ hk=>hk)).1
 rw [← bu.out] at OH
 have KH:=m_ OH
 clear az b0 ch cg OH
 have cm:0≤((iC):Int):=bF bG
 have cn:((iC):Int) < ((a5.length:Int):Int):=bF bG
 obtain ⟨de,ci,cj,ap,aq⟩:=Kd.oP KH.out z43 ((iC):Int) cm cn
 obtain rfl:=oW cj
 have bh:World.cell? _ ⟨a7,((iC):Int).toNat * 3,none⟩=some (.string ((aC aW (iC)).f0)):=ap 0 _ rfl
 have bi:World.cell? _ ⟨a7,((iC):Int).toNat * 3+1,none⟩=some (.bool ((aC aW (iC)).f1)):=ap 1 _ rfl
 have bj:World.cell? _ ⟨a7,((iC):Int).toNat * 3+2,none⟩=some (.string ((aC aW (iC)).f2)):=ap 2 _ rfl
 have bl:World.frozen? _ ⟨a7,((iC):Int).toNat * 3,none⟩=false:=aq 0
 have bm:World.frozen? _ ⟨a7,((iC):Int).toNat * 3+1,none⟩=false:=aq 1
 have fB:World.frozen? _ ⟨a7,((iC):Int).toNat * 3+2,none⟩=false:=aq 2
 clear ci ap aq cj
 replace cm:=eq_true cm
 replace cn:=eq_true cn
 obtain ⟨df,b1,ck,b2,cl⟩:=Kd.oP KH.out z43 ((iC):Int) (bF bG) (by have dG:((iC):Int) < ((a5.length:Int):Int):=bF bG;first|exact dG|(have e_:=(Kd.dN bJ.out).1;omega)|simpa using dG)
 obtain rfl:=oW ck
 have OI:=(Kd.yc KH.out ((iC):Int) (bF bG) (by have dG:((iC):Int) < ((a5.length:Int):Int):=bF bG;first|exact dG|(have e_:=(Kd.dN bJ.out).1;omega)|simpa using dG) (seg:=[.string ((aC a5 a6).f0),.bool ((aC a5 a6).f1),.string ((aC a5 a6).f2)]) (j:=0) b1 b2 (show 3≤3 from by decide) (x':=(⟨(aC a5 a6).f0,(aC a5 a6).f1,(aC a5 a6).f2⟩:aF)) (qp _ _ _ (⟨(aC a5 a6).f0,(aC a5 a6).f1,(aC a5 a6).f2⟩:aF) ) (fun _ hk=>hk)).1
 rw [← bw.out] at OI
 have U7:=m_ OI
 clear b1 b2 cl ck OI
 refine iT (n:=18) (S:=fun w'=>KX w' a7 (((iC)).toNat * 3) (.string ((aC a5 (iC)).f0)) (.bool ((aC a5 (iC)).f1)) (.string ((aC a5 (iC)).f2)) <| KY w' a7 (((a6).toNat * 3)) (.string ((aC a5 a6).f0)) (.bool ((aC a5 a6).f1)) (.string ((aC a5 a6).f2))) (ds:=[15,17]) PO aB rfl rfl ⟨ag,aK,ai,aN,aQ,al⟩ (fun hH=>?_);refine kE (T:=mJ.T6) (B:=mJ.B6) aB aB (fun aO fJ=>?_)
 generalize d8.drew=di at bJ HK HB cx KH U7 be fA dM bl bm fB bb bc bd bh bi bj a9 aa ab ac ae af ag aK ai aN aQ al hH ⊢
 refine bV 0 ?_
 refine bV 1 ?_
 refine bV 2 ?_
 refine bV 3 ?_
 refine bV 4 ?_
 refine bV 5 ?_
 refine bV 6 ?_
 refine bV 7 ?_
 refine bV 8 ?_
 refine bV 10 ?_
 refine bV 11 ?_
 refine bV 12 ?_
 refine lg 9 hH ?_
 refine lg 13 hH ?_
 refine bV 14 ?_
 refine xQ 15 (fun K hK=>?_)
 refine iM (w1:=?_) (by rfl) rfl ?_ ?_
 rotate_left
 ·go_simp
  rfl
 refine hK.out _ _ ?_
 clear hK K
 refine bV 16 ?_
 refine xQ 17 (fun K hK=>?_)
 refine iM (w1:=?_) (by rfl) rfl ?_ ?_
 rotate_left
 ·obtain ⟨P5,Qp,DC,wB,wC⟩:=Kd.oP bJ.out z43 ((iC):Int) (of_eq_true cm) (of_eq_true cn)
  obtain rfl:=oW DC
  have Qb:World.frozen? _ ⟨a7,((iC):Int).toNat * 3,none⟩=false:=wC 0
  have Ei:World.cell? _ ⟨a7,((iC):Int).toNat * 3,none⟩=some _:=wB 0 _ rfl
  obtain ⟨_,P9⟩:=cell?_setCell_some (p:=⟨a7,(a6:Int).toNat * 3,none⟩) (x:=.string ((aC a5 (iC)).f0)) Ei
  have Qc:World.frozen? _ ⟨a7,((iC):Int).toNat * 3+1,none⟩=false:=wC 1
  have Ej:World.cell? _ ⟨a7,((iC):Int).toNat * 3+1,none⟩=some _:=wB 1 _ rfl
  obtain ⟨_,Dp⟩:=cell?_setCell_some (p:=⟨a7,(a6:Int).toNat * 3,none⟩) (x:=.string ((aC a5 (iC)).f0)) Ej
  obtain ⟨_,P_⟩:=cell?_setCell_some (p:=⟨a7,(a6:Int).toNat * 3+1,none⟩) (x:=.bool ((aC a5 (iC)).f1)) Dp
  have Qd:World.frozen? _ ⟨a7,((iC):Int).toNat * 3+2,none⟩=false:=wC 2
  have Em:World.cell? _ ⟨a7,((iC):Int).toNat * 3+2,none⟩=some _:=wB 2 _ rfl
  obtain ⟨_,Dq⟩:=cell?_setCell_some (p:=⟨a7,(a6:Int).toNat * 3,none⟩) (x:=.string ((aC a5 (iC)).f0)) Em
  obtain ⟨_,Dt⟩:=cell?_setCell_some (p:=⟨a7,(a6:Int).toNat * 3+1,none⟩) (x:=.bool ((aC a5 (iC)).f1)) Dq
  obtain ⟨_,Qa⟩:=cell?_setCell_some (p:=⟨a7,(a6:Int).toNat * 3+2,none⟩) (x:=.string ((aC a5 (iC)).f2)) Dt
  go_simp
  rfl
 refine hK.out _ _ ?_
 clear hK K
 refine iP (ku aO.out aB) ?_
 try go_wp2
 go_roundg k2
 case measure=>have:=gZ.out;have:=jM.out;omega
 case rel=>exact ⟨(bv),(iC),(by first|rfl|(simp;done)|(simp only [← Jh] <;> (first|rfl|simp))|(simp [*];done)),H',⟨J8⟩,⟨(aJ U7)⟩,⟨(by repeat (first|(with_reducible first|exact HK.out|apply Kept.alloc|apply Kept.drewN|apply Kept.drew|refine Kept.setCell ?_ EI.out _|refine Kept.setCell ?_ EI.out _|refine Kept.setCell ?_ EI.out _|refine Kept.setCell ?_ EI.out _|refine Kept.setCell ?_ EI.out _|refine Kept.setCell ?_ EI.out _)|exact HK.out))⟩,⟨(by repeat (first|(with_reducible first|exact HB.out|apply mY|apply qN|apply lC|refine iF ?_ ar.out|refine iF ?_ ar.out|refine iF ?_ ar.out|refine iF ?_ ar.out|refine iF ?_ ar.out|refine iF ?_ ar.out)|exact HB.out))⟩⟩

def tq.l0:Nat→List (aF)→Int→Int→Int→Int→Option ((List (aF)))
 | 0,_,_,_,_,_=>none
 | k+1,x0,x1,x2,x3,a5=>if a5 < x3 then (if 0≤(wrap64 (x2+a5)) then (if (wrap64 (x2+a5)) < (x0.length:Int) then (if 0≤(wrap64 (x1+a5)) then (if (wrap64 (x1+a5)) < (x0.length:Int) then (tq.l0 k ((x0.set ((wrap64 (x1+a5)):Int).toNat (⟨(aC x0 (wrap64 (x2+a5))).f0,(aC x0 (wrap64 (x2+a5))).f1,(aC x0 (wrap64 (x2+a5))).f2⟩:aF)).set ((wrap64 (x2+a5)):Int).toNat (⟨(aC x0 (wrap64 (x1+a5))).f0,(aC x0 (wrap64 (x1+a5))).f1,(aC x0 (wrap64 (x1+a5))).f2⟩:aF)) x1 x2 x3 (wrap64 (a5+1))) else (none)) else (none)) else (none)) else (none)) else (some x0)
def tq.f (k:Nat) (l0:List (aF)) (a1:Int) (a2:Int) (a3:Int) (a4:Unit):Option ((List (aF))):=tq.l0 k l0 a1 a2 a3 0
def tq.T3:Bool × List (List Nat × List Nat):=(true,[([],[]),([],[]),([],[]),([1,2],[1,2]),([],[]),([],[]),([],[]),([5,6],[5,6]),([],[]),([],[]),([],[]),([9,10],[9,10]),([8,11],[8,11]),([12],[12]),([],[]),([],[]),([],[]),([15,16],[15,16]),([14,17],[14,17]),([18],[18]),([0,3,0,1,2,3,8,9,10,11,12,13,19],[0,3]),([20,13,0,1,2,3,8,9,10,11,12,13,19],[13,20]),([4,7,0,1,2,3,4,5,6,7,8,9,10,11,12,13,14,15,16,17,18,19,20,21],[4,7]),([22,19,21,0,1,2,3,4,5,6,7,8,9,10,11,12,13,14,15,16,17,18,19,20,21],[19,22])])
def tq.B3:List Nat:=[0,0,0,6,0,0,0,96,0,0,0,1536,3840,7936,0,0,0,98304,245760,507904,1048335,2096911,4194303,8388607]
theorem tq.calls (k:Nat) (dU:Nat→Prop) (je:Value) (l0:List (aF)) (a1:Int) (a2:Int) (a3:Int) (a4:Unit) (r:List (aF)) (w0 w:World) (hB:Below w0.heap.size w0 w) (ho0:Kd.R aU 43 w w0.heap.size dU je l0) (h:tq.f k l0 a1 a2 a3 a4=some r) :
  Calls Tryz.prog 157 #[je,ah a1,ah a2,ah a3,.func (.func 48) #[] #[]] w fun e w'=>e=.returned (.tuple #[])∧Kd.R aU 43 w' w0.heap.size (fun ay=>(dU ay∨w.heap.size≤ay)) je r∧Below w0.heap.size w0 w'∧Kept w w' (fun ay=>dU ay):=by
 have uf:=underlying43
 have ch:=m_ (show Kd.R aU 43 w w0.heap.size (fun ay=>(dU ay∨w.heap.size≤ay)) je l0 from Kd.bn ho0 (fun ay hk=>(.inl hk)))
 have HK:=m_ (Kept.refl w (fun ay=>dU ay))
 have HW0:=m_ hB.size
 have HB:=m_ hB
 clear hB
 unfold tq.f at h
 have H:=h
 clear h
 have H':=m_ H
 clear H
 go_enter func157,ntmps157
 go_wp2
 go_loopg [10] k (fun kq v10 w'=>∃ (a5:List (aF)) (a7:Int),v10=ah a7∧aA (tq.l0 kq a5 a1 a2 a3 a7=some r)∧aA (kq≤k)∧aA (Kd.R aU 43 w' w0.heap.size (fun ay=>(dU ay∨w.heap.size≤ay)) je a5)∧aA (Kept w w' (fun ay=>dU ay))∧aA (Below w0.heap.size w0 w'))
 case atStart=>exact ⟨(l0),(0),bg,H',⟨Nat.le_refl _⟩,⟨(aJ ch)⟩,⟨jc⟩,⟨au⟩⟩
 case round =>
 clear H'
 obtain ⟨a5,a7,rfl,HA,gZ,bJ,HK,HB⟩:=hrel
 cases gk with
 | zero=>exact absurd HA.out (by simp [tq.l0])
 | succ k1 =>
 obtain ⟨H⟩:=HA
 simp only [tq.l0] at H
 revert H;refine gJ (fun bu H=>?_) fun bu H=>?_
 rotate_left
 ·obtain rfl:=dF H
  go_wp2
  first|go_end0|((try simp only [Exit.inBlock,Exit.then]);refine bodyPost_ret (results_none rfl _ _ _) rfl ?_)
  exact ⟨bM,(aJ bJ),au,jc⟩
 obtain ⟨iY,zI⟩:∃ lU:Int,(wrap64 (a2+a7))=lU:=⟨_,rfl⟩
 replace H:(if 0≤(iY) then (if (iY) < (a5.length:Int) then (if 0≤(wrap64 (a1+a7)) then (if (wrap64 (a1+a7)) < (a5.length:Int) then (tq.l0 k1 ((a5.set ((wrap64 (a1+a7)):Int).toNat (⟨(aC a5 (iY)).f0,(aC a5 (iY)).f1,(aC a5 (iY)).f2⟩:aF)).set ((iY):Int).toNat (⟨(aC a5 (wrap64 (a1+a7))).f0,(aC a5 (wrap64 (a1+a7))).f1,(aC a5 (wrap64 (a1+a7))).f2⟩:aF)) a1 a2 a3 (wrap64 (a7+1))) else (none)) else (none)) else (none)) else (none))=some r:=by first|(rw [zI] at H;exact H)|(simp only [zI] at H ⊢;exact H)
 have awO:(IntKind.i64.wrap (a2+a7))=iY:=(aY _).trans zI
 obtain ⟨ci,H⟩:=gK H
 obtain ⟨cj,H⟩:=gK H
 obtain ⟨jP,SQ⟩:∃ lU:Int,(wrap64 (a1+a7))=lU:=⟨_,rfl⟩
 replace H:(if 0≤(jP) then (if (jP) < (a5.length:Int) then (tq.l0 k1 ((a5.set ((jP):Int).toNat (⟨(aC a5 (iY)).f0,(aC a5 (iY)).f1,(aC a5 (iY)).f2⟩:aF)).set ((iY):Int).toNat (⟨(aC a5 (jP)).f0,(aC a5 (jP)).f1,(aC a5 (jP)).f2⟩:aF)) a1 a2 a3 (wrap64 (a7+1))) else (none)) else (none))=some r:=by first|(rw [SQ] at H;exact H)|(simp only [SQ] at H ⊢;exact H)
 have awv:(IntKind.i64.wrap (a1+a7))=jP:=(aY _).trans SQ
 obtain ⟨ce,H⟩:=gK H
 obtain ⟨cg,H⟩:=gK H
 obtain ⟨aQ,al⟩:∃ y_:List (aF),y_=(a5.set ((jP):Int).toNat (⟨(aC a5 (iY)).f0,(aC a5 (iY)).f1,(aC a5 (iY)).f2⟩:aF)):=⟨_,rfl⟩
 rw [← al] at H
 have b9:=m_ al
 clear al
 obtain ⟨ba,am⟩:∃ y_:List (aF),y_=(aQ.set ((iY):Int).toNat (⟨(aC a5 (jP)).f0,(aC a5 (jP)).f1,(aC a5 (jP)).f2⟩:aF)):=⟨_,rfl⟩
 rw [← am] at H
 have bb:=m_ am
 clear am
 have H':=m_ H
 clear H
 try go_wp2
 obtain ⟨bJ,HK,HB⟩:=p_ (Kd.aZ bJ.out) <| p_ (Kept.drew HK.out) <| a_ (lC HB.out)
 obtain ⟨ck,cl,bc⟩:=Kd.dK bJ.out
 (first|subst bc|(injection bc with dV gU dW;have gV:=dV.symm;have gW:=dW.symm;clear dV gU dW;subst gV;subst gW))
 have ar:0≤((iY):Int):=bF bG
 have aW:(iY) < (a5.length:Int):=bF bG
 obtain ⟨bd,bv,a8,a9,aa⟩:=kY (Kd.dN bJ.out).2.2 (iY) ar aW
 cases bv
 replace ar:=eq_true ar
 replace aW:=eq_true aW
 have av:0≤((jP):Int):=bF bG
 have aw:(jP) < (a5.length:Int):=bF bG
 obtain ⟨be,bw,ab,ac,ae⟩:=kY (Kd.dN bJ.out).2.2 (jP) av aw
 obtain rfl:bd=be:=(by injection bw)
 replace av:=eq_true av
 replace aw:=eq_true aw
 have bx:0≤((jP):Int):=bF bG
 have bz:((jP):Int) < ((a5.length:Int):Int):=bF bG
 obtain ⟨a6,cm,fA,dM,ca,cn,bh⟩:=Kd.yQ bJ.out (by omega)
 (first|cases fA|(injection fA with kQ uX uV;(first|subst kQ|(injection kQ with kQ;subst kQ));subst uV;clear uX))
 have aN:=m_ dM
 have cc:=m_ bh
 clear dM ca bh
 have EH:=m_ (show (dU a6∨w.heap.size≤a6) from (bJ.out.1 _ rfl))
 (first|simp only [add_plain] at a8|skip)
 (first|simp only [add_plain] at a9|skip)
 (first|simp only [add_plain] at aa|skip)
 (first|simp only [add_plain] at ab|skip)
 (first|simp only [add_plain] at ac|skip)
 (first|simp only [add_plain] at ae|skip)
 obtain ⟨co,bi,bj,af,ag⟩:=Kd.oP bJ.out z43 ((jP):Int) bx bz
 obtain rfl:=oW bj
 have ax:World.cell? _ ⟨a6,((jP):Int).toNat * 3,none⟩=some (.string ((aC a5 (jP)).f0)):=af 0 _ rfl
 have bH:World.cell? _ ⟨a6,((jP):Int).toNat * 3+1,none⟩=some (.bool ((aC a5 (jP)).f1)):=af 1 _ rfl
 have az:World.cell? _ ⟨a6,((jP):Int).toNat * 3+2,none⟩=some (.string ((aC a5 (jP)).f2)):=af 2 _ rfl
 have b0:World.frozen? _ ⟨a6,((jP):Int).toNat * 3,none⟩=false:=ag 0
 have b1:World.frozen? _ ⟨a6,((jP):Int).toNat * 3+1,none⟩=false:=ag 1
 have b2:World.frozen? _ ⟨a6,((jP):Int).toNat * 3+2,none⟩=false:=ag 2
 clear bi af ag bj
 replace bx:=eq_true bx
 replace bz:=eq_true bz
 obtain ⟨cp,an,bl,ao,bm⟩:=Kd.oP bJ.out z43 ((jP):Int) (bF bG) (by have dG:((jP):Int) < ((a5.length:Int):Int):=bF bG;first|exact dG|(have e_:=(Kd.dN bJ.out).1;omega)|simpa using dG)
 obtain rfl:=oW bl
 have OE:=(Kd.yc bJ.out ((jP):Int) (bF bG) (by have dG:((jP):Int) < ((a5.length:Int):Int):=bF bG;first|exact dG|(have e_:=(Kd.dN bJ.out).1;omega)|simpa using dG) (seg:=[.string ((aC a5 (iY)).f0),.bool ((aC a5 (iY)).f1),.string ((aC a5 (iY)).f2)]) (j:=0) an ao (show 3≤3 from by decide) (x':=(⟨(aC a5 (iY)).f0,(aC a5 (iY)).f1,(aC a5 (iY)).f2⟩:aF)) (qp _ _ _ (⟨(aC a5 (iY)).f0,(aC a5 (iY)).f1,(aC a5 (iY)).f2⟩:aF) ) (fun _ hk=>hk)).1
 rw [← b9.out] at OE
 have KG:=m_ OE
 clear an ao bm bl OE
 have br:0≤((iY):Int):=bF bG
 have bs:((iY):Int) < ((a5.length:Int):Int):=bF bG
 obtain ⟨cq,fB,bo,aK,ai⟩:=Kd.oP KG.out z43 ((iY):Int) br bs
 obtain rfl:=oW bo
 have b3:World.cell? _ ⟨a6,((iY):Int).toNat * 3,none⟩=some (.string ((aC aQ (iY)).f0)):=aK 0 _ rfl
 have b4:World.cell? _ ⟨a6,((iY):Int).toNat * 3+1,none⟩=some (.bool ((aC aQ (iY)).f1)):=aK 1 _ rfl
 have b5:World.cell? _ ⟨a6,((iY):Int).toNat * 3+2,none⟩=some (.string ((aC aQ (iY)).f2)):=aK 2 _ rfl
 have b6:World.frozen? _ ⟨a6,((iY):Int).toNat * 3,none⟩=false:=ai 0
 have b7:World.frozen? _ ⟨a6,((iY):Int).toNat * 3+1,none⟩=false:=ai 1
 have b8:World.frozen? _ ⟨a6,((iY):Int).toNat * 3+2,none⟩=false:=ai 2
 clear fB aK ai bo
 replace br:=eq_true br
 replace bs:=eq_true bs
 obtain ⟨cr,ap,bp,aq,bq⟩:=Kd.oP KG.out z43 ((iY):Int) (bF bG) (by have dG:((iY):Int) < ((a5.length:Int):Int):=bF bG;first|exact dG|(have e_:=(Kd.dN bJ.out).1;omega)|simpa using dG)
 obtain rfl:=oW bp
 have OG:=(Kd.yc KG.out ((iY):Int) (bF bG) (by have dG:((iY):Int) < ((a5.length:Int):Int):=bF bG;first|exact dG|(have e_:=(Kd.dN bJ.out).1;omega)|simpa using dG) (seg:=[.string ((aC a5 (jP)).f0),.bool ((aC a5 (jP)).f1),.string ((aC a5 (jP)).f2)]) (j:=0) ap aq (show 3≤3 from by decide) (x':=(⟨(aC a5 (jP)).f0,(aC a5 (jP)).f1,(aC a5 (jP)).f2⟩:aF)) (qp _ _ _ (⟨(aC a5 (jP)).f0,(aC a5 (jP)).f1,(aC a5 (jP)).f2⟩:aF) ) (fun _ hk=>hk)).1
 rw [← bb.out] at OG
 have U6:=m_ OG
 clear ap aq bq bp OG
 refine iT (n:=24) (S:=fun w'=>KX w' a6 (((iY)).toNat * 3) (.string ((aC a5 (iY)).f0)) (.bool ((aC a5 (iY)).f1)) (.string ((aC a5 (iY)).f2)) <| KY w' a6 (((jP)).toNat * 3) (.string ((aC a5 (jP)).f0)) (.bool ((aC a5 (jP)).f1)) (.string ((aC a5 (jP)).f2))) (ds:=[21,23]) #[F_,F_,F_,F_,F_,F_,F_,F_,F_,F_,F_,F_,F_,F_,F_,F_,F_,F_,F_,F_,F_,F_,F_,F_] aB rfl rfl ⟨a8,a9,aa,ab,ac,ae⟩ (fun hH=>?_);refine kE (T:=tq.T3) (B:=tq.B3) aB aB (fun aO fJ=>?_)
 generalize wr.drew=ct at bJ HK HB cc KG U6 b0 b1 b2 b6 b7 b8 ax bH az b3 b4 b5 a8 a9 aa ab ac ae hH ⊢
 refine cu 0 16 #[aj,F_,F_,F_,F_,F_,F_,F_,F_,F_,F_,F_,F_,F_,F_,F_,F_,F_,F_,F_,F_,F_,F_,F_] aO ?_
 refine cu 1 17 #[aj,aj,F_,F_,F_,F_,F_,F_,F_,F_,F_,F_,F_,F_,F_,F_,F_,F_,F_,F_,F_,F_,F_,F_] aO ?_
 refine cu 2 18 #[aj,aj,aj,F_,F_,F_,F_,F_,F_,F_,F_,F_,F_,F_,F_,F_,F_,F_,F_,F_,F_,F_,F_,F_] aO ?_
 refine cu 3 19 #[aj,aj,aj,aj,F_,F_,F_,F_,F_,F_,F_,F_,F_,F_,F_,F_,F_,F_,F_,F_,F_,F_,F_,F_] aO ?_
 refine cu 4 20 #[aj,aj,aj,aj,aj,F_,F_,F_,F_,F_,F_,F_,F_,F_,F_,F_,F_,F_,F_,F_,F_,F_,F_,F_] aO ?_
 refine cu 5 21 #[aj,aj,aj,aj,aj,aj,F_,F_,F_,F_,F_,F_,F_,F_,F_,F_,F_,F_,F_,F_,F_,F_,F_,F_] aO ?_
 refine cu 6 22 #[aj,aj,aj,aj,aj,aj,aj,F_,F_,F_,F_,F_,F_,F_,F_,F_,F_,F_,F_,F_,F_,F_,F_,F_] aO ?_
 refine cu 7 23 #[aj,aj,aj,aj,aj,aj,aj,aj,F_,F_,F_,F_,F_,F_,F_,F_,F_,F_,F_,F_,F_,F_,F_,F_] aO ?_
 refine cu 8 24 #[aj,aj,aj,aj,aj,aj,aj,aj,aj,F_,F_,F_,F_,F_,F_,F_,F_,F_,F_,F_,F_,F_,F_,F_] aO ?_
 refine cu 9 25 #[aj,aj,aj,aj,aj,aj,aj,aj,aj,aj,F_,F_,F_,F_,F_,F_,F_,F_,F_,F_,F_,F_,F_,F_] aO ?_
 refine cu 10 26 #[aj,aj,aj,aj,aj,aj,aj,aj,aj,aj,aj,F_,F_,F_,F_,F_,F_,F_,F_,F_,F_,F_,F_,F_] aO ?_
 refine cu 11 27 #[aj,aj,aj,aj,aj,aj,aj,aj,aj,aj,aj,aj,F_,F_,F_,F_,F_,F_,F_,F_,F_,F_,F_,F_] aO ?_
 refine cu 12 28 #[aj,aj,aj,aj,aj,aj,aj,aj,aj,aj,aj,aj,aj,F_,F_,F_,F_,F_,F_,F_,F_,F_,F_,F_] aO ?_
 refine cu 14 30 #[aj,aj,aj,aj,aj,aj,aj,aj,aj,aj,aj,aj,aj,F_,aj,F_,F_,F_,F_,F_,F_,F_,F_,F_] aO ?_
 refine cu 15 31 #[aj,aj,aj,aj,aj,aj,aj,aj,aj,aj,aj,aj,aj,F_,aj,aj,F_,F_,F_,F_,F_,F_,F_,F_] aO ?_
 refine cu 16 32 #[aj,aj,aj,aj,aj,aj,aj,aj,aj,aj,aj,aj,aj,F_,aj,aj,aj,F_,F_,F_,F_,F_,F_,F_] aO ?_
 refine cu 17 33 #[aj,aj,aj,aj,aj,aj,aj,aj,aj,aj,aj,aj,aj,F_,aj,aj,aj,aj,F_,F_,F_,F_,F_,F_] aO ?_
 refine cu 18 34 #[aj,aj,aj,aj,aj,aj,aj,aj,aj,aj,aj,aj,aj,F_,aj,aj,aj,aj,aj,F_,F_,F_,F_,F_] aO ?_
 refine jZ 13 29 #[aj,aj,aj,aj,aj,aj,aj,aj,aj,aj,aj,aj,aj,aj,aj,aj,aj,aj,aj,F_,F_,F_,F_,F_] aO fJ hH ?_
 refine jZ 19 35 #[aj,aj,aj,aj,aj,aj,aj,aj,aj,aj,aj,aj,aj,aj,aj,aj,aj,aj,aj,aj,F_,F_,F_,F_] aO fJ hH ?_
 refine cu 20 36 #[aj,aj,aj,aj,aj,aj,aj,aj,aj,aj,aj,aj,aj,aj,aj,aj,aj,aj,aj,aj,aj,F_,F_,F_] aO ?_
 refine JO (i:=21) (N:=none) #[aj,aj,aj,aj,aj,aj,aj,aj,aj,aj,aj,aj,aj,aj,aj,aj,aj,aj,aj,aj,aj,aj,F_,F_] rfl rfl (jq aO.out aB) (by decide) (fun K hK=>?_)
 refine iM (w1:=?_) (by rfl) rfl ?_ ?_
 rotate_left
 ·go_simp
  rfl
 refine hK.out _ _ ?_
 clear hK K
 refine cu 22 37 #[aj,aj,aj,aj,aj,aj,aj,aj,aj,aj,aj,aj,aj,aj,aj,aj,aj,aj,aj,aj,aj,aj,aj,F_] aO ?_
 refine JO (i:=23) (N:=none) #[aj,aj,aj,aj,aj,aj,aj,aj,aj,aj,aj,aj,aj,aj,aj,aj,aj,aj,aj,aj,aj,aj,aj,aj] rfl rfl (jq aO.out aB) (by decide) (fun K hK=>?_)
 refine iM (w1:=?_) (by rfl) rfl ?_ ?_
 rotate_left
 ·obtain ⟨P5,Qp,DC,wB,wC⟩:=Kd.oP bJ.out z43 ((iY):Int) (of_eq_true br) (of_eq_true bs)
  obtain rfl:=oW DC
  have Qb:World.frozen? _ ⟨a6,((iY):Int).toNat * 3,none⟩=false:=wC 0
  have Ei:World.cell? _ ⟨a6,((iY):Int).toNat * 3,none⟩=some _:=wB 0 _ rfl
  obtain ⟨_,P9⟩:=cell?_setCell_some (p:=⟨a6,((jP):Int).toNat * 3,none⟩) (x:=.string ((aC a5 (iY)).f0)) Ei
  have Qc:World.frozen? _ ⟨a6,((iY):Int).toNat * 3+1,none⟩=false:=wC 1
  have Ej:World.cell? _ ⟨a6,((iY):Int).toNat * 3+1,none⟩=some _:=wB 1 _ rfl
  obtain ⟨_,Dp⟩:=cell?_setCell_some (p:=⟨a6,((jP):Int).toNat * 3,none⟩) (x:=.string ((aC a5 (iY)).f0)) Ej
  obtain ⟨_,P_⟩:=cell?_setCell_some (p:=⟨a6,((jP):Int).toNat * 3+1,none⟩) (x:=.bool ((aC a5 (iY)).f1)) Dp
  have Qd:World.frozen? _ ⟨a6,((iY):Int).toNat * 3+2,none⟩=false:=wC 2
  have Em:World.cell? _ ⟨a6,((iY):Int).toNat * 3+2,none⟩=some _:=wB 2 _ rfl
  obtain ⟨_,Dq⟩:=cell?_setCell_some (p:=⟨a6,((jP):Int).toNat * 3,none⟩) (x:=.string ((aC a5 (iY)).f0)) Em
  obtain ⟨_,Dt⟩:=cell?_setCell_some (p:=⟨a6,((jP):Int).toNat * 3+1,none⟩) (x:=.bool ((aC a5 (iY)).f1)) Dq
  obtain ⟨_,Qa⟩:=cell?_setCell_some (p:=⟨a6,((jP):Int).toNat * 3+2,none⟩) (x:=.string ((aC a5 (iY)).f2)) Dt
  go_simp
  rfl
 refine hK.out _ _ ?_
 clear hK K
 refine iP (ku aO.out aB) ?_
 try go_wp2
 go_roundg k1
 case measure=>have:=gZ.out;omega
 case rel=>exact ⟨(ba),(wrap64 (a7+1)),bg,H',⟨ou⟩,⟨(aJ U6)⟩,⟨(by repeat (first|(with_reducible first|exact HK.out|apply Kept.alloc|apply Kept.drewN|apply Kept.drew|refine Kept.setCell ?_ EH.out _|refine Kept.setCell ?_ EH.out _|refine Kept.setCell ?_ EH.out _|refine Kept.setCell ?_ EH.out _|refine Kept.setCell ?_ EH.out _|refine Kept.setCell ?_ EH.out _)|exact HK.out))⟩,⟨(by repeat (first|(with_reducible first|exact HB.out|apply mY|apply qN|apply lC|refine iF ?_ aN.out|refine iF ?_ aN.out|refine iF ?_ aN.out|refine iF ?_ aN.out|refine iF ?_ aN.out|refine iF ?_ aN.out)|exact HB.out))⟩⟩

def yF.l0:Nat→List (aF)→Int→Unit→Int→Int→Option ((List (aF)))
 | 0,_,_,_,_,_=>none
 | k+1,x0,x2,x4,a5,a6=>if a5=a6 then ((tq.f k x0 (wrap64 (x2 - a5)) x2 a5 x4).bind fun a7=>(some a7)) else (if a5 > a6 then ((tq.f k x0 (wrap64 (x2 - a5)) x2 a6 x4).bind fun a8=>(yF.l0 k a8 x2 x4 (wrap64 (a5 - a6)) a6)) else ((tq.f k x0 (wrap64 (x2 - a5)) (wrap64 ((wrap64 (x2+a6)) - a5)) a5 x4).bind fun a9=>(yF.l0 k a9 x2 x4 a5 (wrap64 (a6 - a5)))))
def yF.f (k:Nat) (l0:List (aF)) (a1:Int) (a2:Int) (a3:Int) (a4:Unit):Option ((List (aF))):=yF.l0 k l0 a2 a4 (wrap64 (a2 - a1)) (wrap64 (a3 - a2))
theorem yF.calls (k:Nat) (dU:Nat→Prop) (je:Value) (l0:List (aF)) (a1:Int) (a2:Int) (a3:Int) (a4:Unit) (r:List (aF)) (w0 w:World) (hB:Below w0.heap.size w0 w) (ho0:Kd.R aU 43 w w0.heap.size dU je l0) (h:yF.f k l0 a1 a2 a3 a4=some r) :
  Calls Tryz.prog 148 #[je,ah a1,ah a2,ah a3,.func (.func 48) #[] #[]] w fun e w'=>e=.returned (.tuple #[])∧Kd.R aU 43 w' w0.heap.size (fun ay=>(dU ay∨w.heap.size≤ay)) je r∧Below w0.heap.size w0 w'∧Kept w w' (fun ay=>dU ay):=by
 have ap:=m_ (show Kd.R aU 43 w w0.heap.size (fun ay=>(dU ay∨w.heap.size≤ay)) je l0 from Kd.bn ho0 (fun ay hk=>(.inl hk)))
 have HK:=m_ (Kept.refl w (fun ay=>dU ay))
 have HW0:=m_ hB.size
 have HB:=m_ hB
 clear hB
 unfold yF.f at h
 have H:=h
 clear h
 have H':=m_ H
 clear H
 go_enter func148,ntmps148
 go_wp2
 go_loopg [10,11] k (fun kq v10 v11 w'=>∃ (a7:List (aF)) (a5:Int) (a6:Int),v10=ah a5∧v11=ah a6∧aA (yF.l0 kq a7 a2 a4 a5 a6=some r)∧aA (kq≤k)∧aA (Kd.R aU 43 w' w0.heap.size (fun ay=>(dU ay∨w.heap.size≤ay)) je a7)∧aA (Kept w w' (fun ay=>dU ay))∧aA (Below w0.heap.size w0 w'))
 case atStart=>exact ⟨(l0),(wrap64 (a2 - a1)),(wrap64 (a3 - a2)),bg,bg,H',⟨Nat.le_refl _⟩,⟨(aJ ap)⟩,⟨jc⟩,⟨au⟩⟩
 case round =>
 clear H'
 obtain ⟨a7,a5,a6,rfl,rfl,HA,gZ,bJ,HK,HB⟩:=hrel
 cases gk with
 | zero=>exact absurd HA.out (by simp [yF.l0])
 | succ k1 =>
 obtain ⟨H⟩:=HA
 simp only [yF.l0] at H
 revert H;refine fH (fun c6 H=>?_) fun c6 H=>?_
 ·have ai:=fZ c6
  have aN:=f_ c6
  clear c6
  obtain ⟨aQ,A7,H⟩:=bd_ H
  obtain rfl:=dF H
  obtain ⟨al,am,aq⟩:=Kd.dK bJ.out
  subst aq
  go_wp2_with (first|((with_reducible refine bT 157 ?_);refine bU (some 57) rfl rfl func157 aB rfl #[.slice al a7.length am,ah (wrap64 (a2 - a5)),ah a2,ah a5,.func (.func 48) #[] #[]] rfl aX ?_;(with_reducible refine (tq.calls k1 (fun ay=>some ay=(.slice al a7.length am:Value).ownBlock) (.slice al a7.length am) a7 (wrap64 (a2 - a5)) a2 a5 a4 aQ w0 _ au (Kd.tV rfl bJ.out) A7.out).mono ?_);rintro e w9 ⟨rfl,a8,hb,hkp⟩;refine ⟨_,rfl,?_⟩;obtain ⟨bJ,HK,HB⟩:=p_ (Kd.wS rfl a8 (fun ay e_=>bJ.out.1 ay e_)) <| p_ (Kept.then_ (S:=(fun ay=>dU ay)) jc hkp (fun ay hs_=>(fun e_=>(bJ.out.1 ay e_.symm)) hs_)) <| a_ (hb);(try clear hb);(try clear hkp);(try clear a8)))
  first|go_end0|((try simp only [Exit.inBlock,Exit.then]);refine bodyPost_ret (results_none rfl _ _ _) rfl ?_)
  exact ⟨bM,(aJ bJ),au,jc⟩
 have ai:=fP c6
 have aN:=fQ c6
 revert H;refine gJ (fun af H=>?_) fun af H=>?_
 ·obtain ⟨ag,ar,H⟩:=bd_ H
  have H':=m_ H
  clear H
  obtain ⟨a9,aa,an⟩:=Kd.dK bJ.out
  subst an
  go_wp2_with (first|((with_reducible refine bT 157 ?_);refine bU (some 31) rfl rfl func157 aB rfl #[.slice a9 a7.length aa,ah (wrap64 (a2 - a5)),ah a2,ah a6,.func (.func 48) #[] #[]] rfl aX ?_;(with_reducible refine (tq.calls k1 (fun ay=>some ay=(.slice a9 a7.length aa:Value).ownBlock) (.slice a9 a7.length aa) a7 (wrap64 (a2 - a5)) a2 a6 a4 ag w0 _ au (Kd.tV rfl bJ.out) ar.out).mono ?_);rintro e av ⟨rfl,a8,hb,hkp⟩;refine ⟨_,rfl,?_⟩;obtain ⟨bJ,HK,HB⟩:=p_ (Kd.wS rfl a8 (fun ay e_=>bJ.out.1 ay e_)) <| p_ (Kept.then_ (S:=(fun ay=>dU ay)) jc hkp (fun ay hs_=>(fun e_=>(bJ.out.1 ay e_.symm)) hs_)) <| a_ (hb);(try clear hb);(try clear hkp);(try clear a8)))
  go_roundg k1
  case measure=>have:=gZ.out;omega
  case rel=>exact ⟨(ag),(wrap64 (a5 - a6)),(a6),bg,bg,H',⟨ou⟩,⟨(aJ bJ)⟩,⟨jc⟩,⟨au⟩⟩
 obtain ⟨aK,aW,H⟩:=bd_ H
 have H':=m_ H
 clear H
 obtain ⟨ab,ac,ao⟩:=Kd.dK bJ.out
 subst ao
 go_wp2_with (first|((with_reducible refine bT 157 ?_);refine bU (some 46) rfl rfl func157 aB rfl #[.slice ab a7.length ac,ah (wrap64 (a2 - a5)),ah (wrap64 ((wrap64 (a2+a6)) - a5)),ah a5,.func (.func 48) #[] #[]] rfl aX ?_;(with_reducible refine (tq.calls k1 (fun ay=>some ay=(.slice ab a7.length ac:Value).ownBlock) (.slice ab a7.length ac) a7 (wrap64 (a2 - a5)) (wrap64 ((wrap64 (a2+a6)) - a5)) a5 a4 aK w0 _ au (Kd.tV rfl bJ.out) aW.out).mono ?_);rintro e aw ⟨rfl,a8,hb,hkp⟩;refine ⟨_,rfl,?_⟩;obtain ⟨bJ,HK,HB⟩:=p_ (Kd.wS rfl a8 (fun ay e_=>bJ.out.1 ay e_)) <| p_ (Kept.then_ (S:=(fun ay=>dU ay)) jc hkp (fun ay hs_=>(fun e_=>(bJ.out.1 ay e_.symm)) hs_)) <| a_ (hb);(try clear hb);(try clear hkp);(try clear a8)))
 go_roundg k1
 case measure=>have:=gZ.out;omega
 case rel=>exact ⟨(aK),(a5),(wrap64 (a6 - a5)),bg,bg,H',⟨ou⟩,⟨(aJ bJ)⟩,⟨jc⟩,⟨au⟩⟩

end Go.Proofs.YthejdhjpbpamoaaGreatDoor.jD
