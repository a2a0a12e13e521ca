/- Contracts of Go functions: each call returns what the Lean function beside it computes. Conditions: as each theorem states them. -/
import Derived.Test.YthejdhjpbpamoaaGreatDoorPkFnCodes
import Derived.Test.YthejdhjpbpamoaaGreatDoorPFnCodesx1
import Derived.Test.YthejdhjpbpamoaaGreatDoorPFnCodesx8
namespace Go.Proofs.YthejdhjpbpamoaaGreatDoor.jD
open Go.RowKit Go.Proofs.YthejdhjpbpamoaaGreatDoorW.iw Go.Proofs.YthejdhjpbpamoaaGreatDoorW.lH Go.Proofs.YthejdhjpbpamoaaGreatDoorW.oO Go.Proofs.Tryz
attribute [local go_sem] qw qB qA qF qy qE qx qC   -- for this text's walks alone
set_option linter.unusedVariables false
set_option maxHeartbeats 8000000
set_option maxRecDepth 100000
set_option linter.unusedSimpArgs false

mutual
def fM.l0:Nat→List (aF)→Int→Int→Int→Option ((List (aF)))
 | 0,_,_,_,_=>none
 | k+1,x0,x1,a5,a6=>if a5 < a6 then (if 0≤(wrap64 ((IntKind.u64.wrap (wrap64 (a5+a6))) / 2)) then (if (wrap64 ((IntKind.u64.wrap (wrap64 (a5+a6))) / 2)) < (x0.length:Int) then (if 0≤x1 then (if x1 < (x0.length:Int) then ((vJ.f ((aC x0 (wrap64 ((IntKind.u64.wrap (wrap64 (a5+a6))) / 2))).f0) ((aC x0 (wrap64 ((IntKind.u64.wrap (wrap64 (a5+a6))) / 2))).f1) ((aC x0 (wrap64 ((IntKind.u64.wrap (wrap64 (a5+a6))) / 2))).f2) ((aC x0 x1).f0) ((aC x0 x1).f1) ((aC x0 x1).f2)).bind fun a7=>(if a7 < 0 then (fM.l0 k x0 x1 (wrap64 ((wrap64 ((IntKind.u64.wrap (wrap64 (a5+a6))) / 2))+1)) a6) else (fM.l0 k x0 x1 a5 (wrap64 ((IntKind.u64.wrap (wrap64 (a5+a6))) / 2))))) else (none)) else (none)) else (none)) else (none)) else (fM.l1 k x0 a5 x1)
def fM.l1:Nat→List (aF)→Int→Int→Option ((List (aF)))
 | 0,_,_,_=>none
 | k+1,x0,a6,a5=>if a5 < (wrap64 (a6 - 1)) then (if 0≤(wrap64 (a5+1)) then (if (wrap64 (a5+1)) < (x0.length:Int) then (if 0≤a5 then (if a5 < (x0.length:Int) then (fM.l1 k ((x0.set (a5:Int).toNat (⟨(aC x0 (wrap64 (a5+1))).f0,(aC x0 (wrap64 (a5+1))).f1,(aC x0 (wrap64 (a5+1))).f2⟩:aF)).set ((wrap64 (a5+1)):Int).toNat (⟨(aC x0 a5).f0,(aC x0 a5).f1,(aC x0 a5).f2⟩:aF)) a6 (wrap64 (a5+1))) else (none)) else (none)) else (none)) else (none)) else (some x0)
def fM.l2:Nat→List (aF)→Int→Int→Int→Option ((List (aF)))
 | 0,_,_,_,_=>none
 | k+1,x0,x2,a5,a6=>if a5 < a6 then (if 0≤x2 then (if x2 < (x0.length:Int) then (if 0≤(wrap64 ((IntKind.u64.wrap (wrap64 (a5+a6))) / 2)) then (if (wrap64 ((IntKind.u64.wrap (wrap64 (a5+a6))) / 2)) < (x0.length:Int) then ((vJ.f ((aC x0 x2).f0) ((aC x0 x2).f1) ((aC x0 x2).f2) ((aC x0 (wrap64 ((IntKind.u64.wrap (wrap64 (a5+a6))) / 2))).f0) ((aC x0 (wrap64 ((IntKind.u64.wrap (wrap64 (a5+a6))) / 2))).f1) ((aC x0 (wrap64 ((IntKind.u64.wrap (wrap64 (a5+a6))) / 2))).f2)).bind fun a7=>(if a7 < 0 then (fM.l2 k x0 x2 a5 (wrap64 ((IntKind.u64.wrap (wrap64 (a5+a6))) / 2))) else (fM.l2 k x0 x2 (wrap64 ((wrap64 ((IntKind.u64.wrap (wrap64 (a5+a6))) / 2))+1)) a6))) else (none)) else (none)) else (none)) else (none)) else (fM.l3 k x0 a5 x2)
def fM.l3:Nat→List (aF)→Int→Int→Option ((List (aF)))
 | 0,_,_,_=>none
 | k+1,x0,a6,a5=>if a5 > a6 then (if 0≤(wrap64 (a5 - 1)) then (if (wrap64 (a5 - 1)) < (x0.length:Int) then (if 0≤a5 then (if a5 < (x0.length:Int) then (fM.l3 k ((x0.set (a5:Int).toNat (⟨(aC x0 (wrap64 (a5 - 1))).f0,(aC x0 (wrap64 (a5 - 1))).f1,(aC x0 (wrap64 (a5 - 1))).f2⟩:aF)).set ((wrap64 (a5 - 1)):Int).toNat (⟨(aC x0 a5).f0,(aC x0 a5).f1,(aC x0 a5).f2⟩:aF)) a6 (wrap64 (a5 - 1))) else (none)) else (none)) else (none)) else (none)) else (some x0)
def fM.j4:Nat→List (aF)→Int→Int→Int→Unit→Int→Int→Int→Int→Option ((List (aF)))
 | 0,_,_,_,_,_,_,_,_,_=>none
 | k+1,x0,x1,x2,x3,x4,a6,a5,a7,a8=>fM.l4 k x0 x1 x2 x3 x4 a6 a5 a7 a8 (wrap64 (a5 - 1))
def fM.l4:Nat→List (aF)→Int→Int→Int→Unit→Int→Int→Int→Int→Int→Option ((List (aF)))
 | 0,_,_,_,_,_,_,_,_,_,_=>none
 | k+1,x0,x1,x2,x3,x4,a9,a8,a5,a6,a7=>if a5 < a6 then (if 0≤(wrap64 (a7 - (wrap64 ((IntKind.u64.wrap (wrap64 (a5+a6))) / 2)))) then (if (wrap64 (a7 - (wrap64 ((IntKind.u64.wrap (wrap64 (a5+a6))) / 2)))) < (x0.length:Int) then (if 0≤(wrap64 ((IntKind.u64.wrap (wrap64 (a5+a6))) / 2)) then (if (wrap64 ((IntKind.u64.wrap (wrap64 (a5+a6))) / 2)) < (x0.length:Int) then ((vJ.f ((aC x0 (wrap64 (a7 - (wrap64 ((IntKind.u64.wrap (wrap64 (a5+a6))) / 2))))).f0) ((aC x0 (wrap64 (a7 - (wrap64 ((IntKind.u64.wrap (wrap64 (a5+a6))) / 2))))).f1) ((aC x0 (wrap64 (a7 - (wrap64 ((IntKind.u64.wrap (wrap64 (a5+a6))) / 2))))).f2) ((aC x0 (wrap64 ((IntKind.u64.wrap (wrap64 (a5+a6))) / 2))).f0) ((aC x0 (wrap64 ((IntKind.u64.wrap (wrap64 (a5+a6))) / 2))).f1) ((aC x0 (wrap64 ((IntKind.u64.wrap (wrap64 (a5+a6))) / 2))).f2)).bind fun aa=>(if aa < 0 then (fM.l4 k x0 x1 x2 x3 x4 a9 a8 a5 (wrap64 ((IntKind.u64.wrap (wrap64 (a5+a6))) / 2)) a7) else (fM.l4 k x0 x1 x2 x3 x4 a9 a8 (wrap64 ((wrap64 ((IntKind.u64.wrap (wrap64 (a5+a6))) / 2))+1)) a6 a7))) else (none)) else (none)) else (none)) else (none)) else (if a5 < x2 then (fM.j6 k x0 x1 x2 x3 x4 a9 a5 (wrap64 (a8 - a5)) (decide (x2 < (wrap64 (a8 - a5))))) else (fM.j6 k x0 x1 x2 x3 x4 a9 a5 (wrap64 (a8 - a5)) false))
def fM.j6:Nat→List (aF)→Int→Int→Int→Unit→Int→Int→Int→Bool→Option ((List (aF)))
 | 0,_,_,_,_,_,_,_,_,_=>none
 | k+1,x0,x1,x2,x3,x4,a9,a5,a6,a7=>if a7=true then ((yF.f k x0 a5 x2 a6 x4).bind fun a8=>(fM.j7 k a8 x1 x3 x4 a9 a5 a6)) else (fM.j7 k x0 x1 x3 x4 a9 a5 a6)
def fM.j7:Nat→List (aF)→Int→Int→Unit→Int→Int→Int→Option ((List (aF)))
 | 0,_,_,_,_,_,_,_=>none
 | k+1,x0,x1,x3,x4,a6,a5,a7=>if x1 < a5 then (fM.j8 k x0 x1 x3 x4 a6 a5 a7 (decide (a5 < a6))) else (fM.j8 k x0 x1 x3 x4 a6 a5 a7 false)
def fM.j8:Nat→List (aF)→Int→Int→Unit→Int→Int→Int→Bool→Option ((List (aF)))
 | 0,_,_,_,_,_,_,_,_=>none
 | k+1,x0,x1,x3,x4,a7,ab,a6,a8=>if a8=true then ((fM.f k x0 x1 ab a7 x4).bind fun a5=>(if a7 < a6 then (if a6 < x3 then ((fM.f k a5 a7 a6 x3 x4).bind fun a9=>(some a9)) else (some a5)) else (some a5))) else (if a7 < a6 then (if a6 < x3 then ((fM.f k x0 a7 a6 x3 x4).bind fun aa=>(some aa)) else (some x0)) else (some x0))
def fM.f:Nat→List (aF)→Int→Int→Int→Unit→Option ((List (aF)))
 | 0,_,_,_,_,_=>none
 | k+1,l0,a1,a2,a3,a4=>if (wrap64 (a2 - a1))=1 then (fM.l0 k l0 a1 a2 a3) else (if (wrap64 (a3 - a2))=1 then (fM.l2 k l0 a2 a1 a2) else (if a2 > (wrap64 ((IntKind.u64.wrap (wrap64 (a1+a3))) / 2)) then (fM.j4 k l0 a1 a2 a3 a4 (wrap64 ((IntKind.u64.wrap (wrap64 (a1+a3))) / 2)) (wrap64 ((wrap64 ((IntKind.u64.wrap (wrap64 (a1+a3))) / 2))+a2)) (wrap64 ((wrap64 ((wrap64 ((IntKind.u64.wrap (wrap64 (a1+a3))) / 2))+a2)) - a3)) (wrap64 ((IntKind.u64.wrap (wrap64 (a1+a3))) / 2))) else (fM.j4 k l0 a1 a2 a3 a4 (wrap64 ((IntKind.u64.wrap (wrap64 (a1+a3))) / 2)) (wrap64 ((wrap64 ((IntKind.u64.wrap (wrap64 (a1+a3))) / 2))+a2)) a1 a2)))
end
def fM.T5:Bool × List (List Nat × List Nat):=(true,[([],[]),([],[]),([],[]),([1,2],[1,2]),([3],[3]),([],[]),([],[]),([5,6],[5,6]),([7],[7]),([0,4,8],[0,4,8]),([9],[9])])
def fM.B5:List Nat:=[0,0,0,6,14,0,0,96,224,511,1023]
def fM.T11:Bool × List (List Nat × List Nat):=(true,[([],[]),([],[]),([],[]),([],[]),([3],[3]),([],[]),([],[]),([6],[6]),([5,7],[5,7]),([8],[8]),([],[]),([],[]),([10,11],[10,11]),([12],[12]),([0,1,0,1,5,6,7,8,9,13],[0,1]),([14,9,0,1,5,6,7,8,9,13],[9,14]),([2,4,0,1,2,3,4,5,6,7,8,9,10,11,12,13,14,15],[2,4]),([16,13,15,0,1,2,3,4,5,6,7,8,9,10,11,12,13,14,15],[13,16])])
def fM.B11:List Nat:=[0,0,0,0,8,0,0,64,224,480,0,0,3072,7168,16355,32739,65535,131071]
def fM.abZ:Bool × List (List Nat × List Nat):=(true,[([],[]),([],[]),([],[]),([1,2],[1,2]),([3],[3]),([],[]),([],[]),([5,6],[5,6]),([7],[7]),([0,4,8],[0,4,8]),([9],[9]),([10],[10])])
def fM.aa2:List Nat:=[0,0,0,6,14,0,0,96,224,511,1023,2047]
def fM.ab2:Bool × List (List Nat × List Nat):=(true,[([],[]),([],[]),([],[]),([],[]),([3],[3]),([],[]),([],[]),([6],[6]),([5,7],[5,7]),([8],[8]),([],[]),([],[]),([10,11],[10,11]),([12],[12]),([0,1,0,1,5,6,7,8,9,13],[0,1]),([14,9,0,1,5,6,7,8,9,13],[9,14]),([2,4,0,1,2,3,4,5,6,7,8,9,10,11,12,13,14,15],[2,4]),([16,13,15,0,1,2,3,4,5,6,7,8,9,10,11,12,13,14,15],[13,16])])
def fM.aa5:List Nat:=[0,0,0,0,8,0,0,64,224,480,0,0,3072,7168,16355,32739,65535,131071]
def fM.O9:Bool × List (List Nat × List Nat):=(true,[([],[]),([],[]),([],[]),([],[]),([2,3],[2,3]),([1,4],[1,4]),([5],[5]),([],[]),([],[]),([7,8],[7,8]),([9],[9]),([0,6,10],[0,6,10]),([11],[11]),([12],[12])])
def fM.Ou:List Nat:=[0,0,0,0,12,30,62,0,0,384,896,2047,4095,8191]
theorem fM.calls (k:Nat):∀ (dU:Nat→Prop) (je:Value) (l0:List (aF)) (a1:Int) (a2:Int) (a3:Int) (a4:Unit) (r:List (aF)) (w0 w:World) (hB:Below w0.heap.size w0 w) (ho0:Kd.R aU 43 w w0.heap.size dU je l0) (h:fM.f k l0 a1 a2 a3 a4=some r),
  Calls Tryz.prog 133 #[je,ah a1,ah a2,ah a3,.func (.func 48) #[] #[]] w fun e w'=>e=.returned (.tuple #[])∧Kd.R aU 43 w' w0.heap.size (fun ay=>(dU ay∨w.heap.size≤ay)) je r∧Below w0.heap.size w0 w'∧Kept w w' (fun ay=>dU ay):=by
 induction k using Nat.strongRecOn with
 | _ k ih =>
 intro dU je l0 a1 a2 a3 a4 r w0 w hB ho0 h
 cases k with
 | zero=>exact absurd h (by simp [fM.f])
 | succ k =>
 simp only [fM.f] at h
 have uf:=underlying43
 have lc:=m_ (show Kd.R aU 43 w w0.heap.size (fun ay=>(dU ay∨w.heap.size≤ay)) je l0 from Kd.bn ho0 (fun ay hk=>(.inl hk)))
 have HK:=m_ (Kept.refl w (fun ay=>dU ay))
 have HW0:=m_ hB.size
 have HB:=m_ hB
 clear hB
 have H:=h
 clear h
 revert H;refine fH (fun c6 H=>?_) fun c6 H=>?_
 ·have iO:=fZ c6
  have cv:=f_ c6
  clear c6
  have H':=m_ H
  clear H
  go_enter func133,ntmps133
  go_wp2
  go_loopg [10,11] k (fun kq v10 v11 w'=>∃ (b4:Int) (bw:Int),v10=ah b4∧v11=ah bw∧aA (fM.l0 kq l0 a1 b4 bw=some r)∧aA (kq≤k)∧aA (Kd.R aU 43 w' w0.heap.size (fun ay=>(dU ay∨w.heap.size≤ay)) je l0)∧aA (Kept w w' (fun ay=>dU ay))∧aA (Below w0.heap.size w0 w'))
  case atStart=>exact ⟨(a2),(a3),bg,bg,H',⟨Nat.le_refl _⟩,⟨(aJ lc)⟩,⟨jc⟩,⟨au⟩⟩
  case round=>as_aux_lemma =>
   clear H'
   try clear c6;try clear iO;try clear cv
   obtain ⟨b4,bw,rfl,rfl,HA,gZ,bJ,HK,HB⟩:=hrel
   cases gk with
   | zero=>exact absurd HA.out (by simp [fM.l0])
   | succ k1 =>
   obtain ⟨H⟩:=HA
   simp only [fM.l0] at H
   revert H;refine gJ (fun d6 H=>?_) fun d6 H=>?_
   ·obtain ⟨ji,rV⟩:∃ lU:Int,(wrap64 ((IntKind.u64.wrap (wrap64 (b4+bw))) / 2))=lU:=⟨_,rfl⟩
    replace H:(if 0≤(ji) then (if (ji) < (l0.length:Int) then (if 0≤a1 then (if a1 < (l0.length:Int) then ((vJ.f ((aC l0 (ji)).f0) ((aC l0 (ji)).f1) ((aC l0 (ji)).f2) ((aC l0 a1).f0) ((aC l0 a1).f1) ((aC l0 a1).f2)).bind fun fe=>(if fe < 0 then (fM.l0 k1 l0 a1 (wrap64 ((ji)+1)) bw) else (fM.l0 k1 l0 a1 b4 ji))) else (none)) else (none)) else (none)) else (none))=some r:=by first|(rw [rV] at H;exact H)|(simp only [rV] at H ⊢;exact H)
    have MV:(IntKind.i64.wrap ((IntKind.u64.wrap (wrap64 (b4+bw))) / 2))=ji:=(aY _).trans rV
    obtain ⟨dg,H⟩:=gK H
    obtain ⟨bx,H⟩:=gK H
    obtain ⟨bz,H⟩:=gK H
    obtain ⟨ca,H⟩:=gK H
    obtain ⟨fe,m7,H⟩:=bd_ H
    have id:=m_ H
    clear H
    try go_wp2
    obtain ⟨bJ,HK,HB⟩:=p_ (Kd.aZ bJ.out) <| p_ (Kept.drew HK.out) <| a_ (lC HB.out)
    obtain ⟨m8,m9,ie⟩:=Kd.dK bJ.out
    (first|subst ie|(injection ie with dV gU dW;have gV:=dV.symm;have gW:=dW.symm;clear dV gU dW;subst gV;subst gW))
    have ck:0≤((ji):Int):=bF bG
    have cl:(ji) < (l0.length:Int):=bF bG
    obtain ⟨b7,lk,ac,ae,af⟩:=kY (Kd.dN bJ.out).2.2 (ji) ck cl
    cases lk
    replace ck:=eq_true ck
    replace cl:=eq_true cl
    have cm:0≤(a1:Int):=bF bG
    have cn:a1 < (l0.length:Int):=bF bG
    obtain ⟨DU,ll,ag,aK,ai⟩:=kY (Kd.dN bJ.out).2.2 a1 cm cn
    obtain rfl:b7=DU:=(by injection ll)
    replace cm:=eq_true cm
    replace cn:=eq_true cn
    refine iT (n:=11) (S:=fun w'=>Ky w' (b7.add (((ji)).toNat * 3)) (.string ((aC l0 (ji)).f0)) (.bool ((aC l0 (ji)).f1)) (.string ((aC l0 (ji)).f2)) <| xX w' (b7.add ((a1).toNat * 3)) (.string ((aC l0 a1).f0)) (.bool ((aC l0 a1).f1)) (.string ((aC l0 a1).f2))) (ds:=[]) Bl aB rfl rfl ⟨ac,ae,af,ag,aK,ai⟩ (fun hH=>?_);refine kE (T:=fM.T5) (B:=fM.B5) aB aB (fun aO fJ=>?_)
    generalize wr.drew=n5 at bJ HK HB ac ae af ag aK ai hH ⊢
    refine bV 0 ?_
    refine cu 1 41 #[aj,aj,F_,F_,F_,F_,F_,F_,F_,F_,F_] aO ?_
    refine cu 2 42 #[aj,aj,aj,F_,F_,F_,F_,F_,F_,F_,F_] aO ?_
    refine bV 3 ?_
    refine cu 5 45 #[aj,aj,aj,aj,F_,aj,F_,F_,F_,F_,F_] aO ?_
    refine cu 6 46 #[aj,aj,aj,aj,F_,aj,aj,F_,F_,F_,F_] aO ?_
    refine cu 7 47 #[aj,aj,aj,aj,F_,aj,aj,aj,F_,F_,F_] aO ?_
    refine lg 4 hH ?_
    refine lg 8 hH ?_
    refine oZ 9 (fun K hK=>?_)
    refine LD func48 aB rfl #[.agg #[.string ((aC l0 (ji)).f0),.bool ((aC l0 (ji)).f1),.string ((aC l0 (ji)).f2)],.agg #[.string ((aC l0 a1).f0),.bool ((aC l0 a1).f1),.string ((aC l0 a1).f2)]] (by rfl) rfl rfl (by rfl) (by (try simp only [List.map_toArray,List.map_cons,List.map_nil]);first|done|(simp only [rV];rfl)|rfl|(simp only [List.length_drop,List.length_take];rfl)) ?_
    with_reducible refine (vJ.calls ((aC l0 (ji)).f0) ((aC l0 (ji)).f1) ((aC l0 (ji)).f2) ((aC l0 a1).f0) ((aC l0 a1).f1) ((aC l0 a1).f2) fe _ m7.out).mono ?_
    rintro e n7 ⟨rfl,hb⟩
    have Cm:=(hb.cell (World.block_lt_of_cell? _ _ (hH.1))).trans (hH.1)
    have CB:=(hb.cell (World.block_lt_of_cell? _ _ (hH.2.1))).trans (hH.2.1)
    have CG:=(hb.cell (World.block_lt_of_cell? _ _ (hH.2.2.1))).trans (hH.2.2.1)
    have CJ:=(hb.cell (World.block_lt_of_cell? _ _ (hH.2.2.2.1))).trans (hH.2.2.2.1)
    have CO:=(hb.cell (World.block_lt_of_cell? _ _ (hH.2.2.2.2.1))).trans (hH.2.2.2.2.1)
    have nM:=(hb.cell (World.block_lt_of_cell? _ _ (hH.2.2.2.2.2))).trans (hH.2.2.2.2.2)
    refine ⟨_,rfl,?_⟩
    obtain ⟨bJ,HK,HB⟩:=p_ (Kd.dw (aJ bJ) hb) <| p_ (Kept.below (S:=(fun ay=>dU ay)) jc hb) <| a_ (dP au hb)
    (try clear hb)
    refine hK.out _ _ ⟨Cm,CB,CG,CJ,CO,nM⟩ (fun hH=>?_)
    clear hK K
    refine eX (some 49) ?_
    refine bV 10 ?_
    refine iP (ku aO.out aB) ?_
    go_upto_if 50 with (fail)
    (try clear ac ae af)
    (try clear ag aK ai)
    obtain ⟨H⟩:=id
    revert H;refine gJ (fun b5 H=>?_) fun b5 H=>?_
    rotate_left
    ·try simp only [aY,bf,b5]
     have H':=m_ H
     clear H
     go_wp2
     go_roundg k1
     case measure=>have:=gZ.out;omega
     case rel=>exact ⟨(b4),(ji),bg,(by first|rfl|(simp;done)|(simp only [← rV] <;> (first|rfl|simp))|(simp [*];done)),H',⟨ou⟩,⟨(aJ bJ)⟩,⟨jc⟩,⟨au⟩⟩
    try simp only [aY,bf,b5]
    have H':=m_ H
    clear H
    go_wp2
    go_roundg k1
    case measure=>have:=gZ.out;omega
    case rel=>exact ⟨(wrap64 ((ji)+1)),(bw),(by first|rfl|(simp;done)|(simp only [← rV] <;> (first|rfl|simp))|(simp [*];done)),bg,H',⟨ou⟩,⟨(aJ bJ)⟩,⟨jc⟩,⟨au⟩⟩
   have H':=m_ H
   clear H
   go_wp2
   go_loopg [13] k1 (fun kq v13 w'=>∃ (a5:List (aF)) (a6:Int),v13=ah a6∧aA (fM.l1 kq a5 b4 a6=some r)∧aA (kq≤k1)∧aA (Kd.R aU 43 w' w0.heap.size (fun ay=>(dU ay∨w.heap.size≤ay)) je a5)∧aA (Kept w w' (fun ay=>dU ay))∧aA (Below w0.heap.size w0 w'))
   case atStart=>exact ⟨(l0),(a1),bg,H',⟨Nat.le_refl _⟩,⟨(aJ bJ)⟩,⟨jc⟩,⟨au⟩⟩
   case round=>as_aux_lemma =>
    clear H'
    try clear c7;try clear d6
    obtain ⟨a5,a6,rfl,HA,jM,bJ,HK,HB⟩:=hrel
    cases gk with
    | zero=>exact absurd HA.out (by simp [fM.l1])
    | succ k2 =>
    obtain ⟨H⟩:=HA
    simp only [fM.l1] at H
    revert H;refine gJ (fun cc H=>?_) fun cc H=>?_
    rotate_left
    ·obtain rfl:=dF H
     go_wp2
     first|go_end0|((try simp only [Exit.inBlock,Exit.then]);refine bodyPost_ret (results_none rfl _ _ _) rfl ?_)
     exact ⟨bM,(aJ bJ),au,jc⟩
    obtain ⟨jw,MP⟩:∃ lU:Int,(wrap64 (a6+1))=lU:=⟨_,rfl⟩
    replace H:(if 0≤(jw) then (if (jw) < (a5.length:Int) then (if 0≤a6 then (if a6 < (a5.length:Int) then (fM.l1 k2 ((a5.set (a6:Int).toNat (⟨(aC a5 (jw)).f0,(aC a5 (jw)).f1,(aC a5 (jw)).f2⟩:aF)).set ((jw):Int).toNat (⟨(aC a5 a6).f0,(aC a5 a6).f1,(aC a5 a6).f2⟩:aF)) b4 jw) else (none)) else (none)) else (none)) else (none))=some r:=by first|(rw [MP] at H;exact H)|(simp only [MP] at H ⊢;exact H)
    have awx:(IntKind.i64.wrap (a6+1))=jw:=(aY _).trans MP
    obtain ⟨co,H⟩:=gK H
    obtain ⟨cp,H⟩:=gK H
    obtain ⟨cq,H⟩:=gK H
    obtain ⟨cr,H⟩:=gK H
    obtain ⟨ep,eq⟩:∃ y_:List (aF),y_=(a5.set (a6:Int).toNat (⟨(aC a5 (jw)).f0,(aC a5 (jw)).f1,(aC a5 (jw)).f2⟩:aF)):=⟨_,rfl⟩
    rw [← eq] at H
    have ii:=m_ eq
    clear eq
    obtain ⟨ij,er⟩:∃ y_:List (aF),y_=(ep.set ((jw):Int).toNat (⟨(aC a5 a6).f0,(aC a5 a6).f1,(aC a5 a6).f2⟩:aF)):=⟨_,rfl⟩
    rw [← er] at H
    have ik:=m_ er
    clear er
    have H':=m_ H
    clear H
    try go_wp2
    obtain ⟨bJ,HK,HB⟩:=p_ (Kd.aZ bJ.out) <| p_ (Kept.drew HK.out) <| a_ (lC HB.out)
    obtain ⟨ma,mb,il⟩:=Kd.dK bJ.out
    (first|subst il|(injection il with dV gU dW;have gV:=dV.symm;have gW:=dW.symm;clear dV gU dW;subst gV;subst gW))
    have cw:0≤((jw):Int):=bF bG
    have cx:(jw) < (a5.length:Int):=bF bG
    obtain ⟨im,lm,aQ,al,am⟩:=kY (Kd.dN bJ.out).2.2 (jw) cw cx
    cases lm
    replace cw:=eq_true cw
    replace cx:=eq_true cx
    have cy:0≤(a6:Int):=bF bG
    have cz:a6 < (a5.length:Int):=bF bG
    obtain ⟨io,ln,an,ao,ap⟩:=kY (Kd.dN bJ.out).2.2 a6 cy cz
    obtain rfl:im=io:=(by injection ln)
    replace cy:=eq_true cy
    replace cz:=eq_true cz
    have lN:0≤(a6:Int):=bF bG
    have di:(a6:Int) < ((a5.length:Int):Int):=bF bG
    obtain ⟨a9,mc,ip,G6,lo,me,ir⟩:=Kd.yQ bJ.out (by omega)
    (first|cases ip|(injection ip with kQ uX uV;(first|subst kQ|(injection kQ with kQ;subst kQ));subst uV;clear uX))
    have eb:=m_ G6
    have lp:=m_ ir
    clear G6 lo ir
    have EJ:=m_ (show (dU a9∨w.heap.size≤a9) from (bJ.out.1 _ rfl))
    (first|simp only [add_plain] at aQ|skip)
    (first|simp only [add_plain] at al|skip)
    (first|simp only [add_plain] at am|skip)
    (first|simp only [add_plain] at an|skip)
    (first|simp only [add_plain] at ao|skip)
    (first|simp only [add_plain] at ap|skip)
    obtain ⟨mf,iu,iv,dv,jU⟩:=Kd.oP bJ.out z43 (a6:Int) lN di
    obtain rfl:=oW iv
    have b8:World.cell? _ ⟨a9,(a6:Int).toNat * 3,none⟩=some (.string ((aC a5 a6).f0)):=dv 0 _ rfl
    have b9:World.cell? _ ⟨a9,(a6:Int).toNat * 3+1,none⟩=some (.bool ((aC a5 a6).f1)):=dv 1 _ rfl
    have ba:World.cell? _ ⟨a9,(a6:Int).toNat * 3+2,none⟩=some (.string ((aC a5 a6).f2)):=dv 2 _ rfl
    have gd:World.frozen? _ ⟨a9,(a6:Int).toNat * 3,none⟩=false:=jU 0
    have gf:World.frozen? _ ⟨a9,(a6:Int).toNat * 3+1,none⟩=false:=jU 1
    have gh:World.frozen? _ ⟨a9,(a6:Int).toNat * 3+2,none⟩=false:=jU 2
    clear iu dv jU iv
    replace lN:=eq_true lN
    replace di:=eq_true di
    obtain ⟨Zn,fo,AA,fp,ix⟩:=Kd.oP bJ.out z43 (a6:Int) (bF bG) (by have dG:(a6:Int) < ((a5.length:Int):Int):=bF bG;first|exact dG|(have e_:=(Kd.dN bJ.out).1;omega)|simpa using dG)
    obtain rfl:=oW AA
    have OJ:=(Kd.yc bJ.out (a6:Int) (bF bG) (by have dG:(a6:Int) < ((a5.length:Int):Int):=bF bG;first|exact dG|(have e_:=(Kd.dN bJ.out).1;omega)|simpa using dG) (seg:=[.string ((aC a5 (jw)).f0),.bool ((aC a5 (jw)).f1),.string ((aC a5 (jw)).f2)]) (j:=0) fo fp (show 3≤3 from by decide) (x':=(⟨(aC a5 (jw)).f0,(aC a5 (jw)).f1,(aC a5 (jw)).f2⟩:aF)) (qp _ _ _ (⟨(aC a5 (jw)).f0,(aC a5 (jw)).f1,(aC a5 (jw)).f2⟩:aF) ) (fun _ hk=>hk)).1
    rw [← ii.out] at OJ
    have KI:=m_ OJ
    clear fo fp ix AA OJ
    have de:0≤((jw):Int):=bF bG
    have df:((jw):Int) < ((a5.length:Int):Int):=bF bG
    obtain ⟨mh,BA,iz,dx,dy⟩:=Kd.oP KI.out z43 ((jw):Int) de df
    obtain rfl:=oW iz
    have bb:World.cell? _ ⟨a9,((jw):Int).toNat * 3,none⟩=some (.string ((aC ep (jw)).f0)):=dx 0 _ rfl
    have bc:World.cell? _ ⟨a9,((jw):Int).toNat * 3+1,none⟩=some (.bool ((aC ep (jw)).f1)):=dx 1 _ rfl
    have bd:World.cell? _ ⟨a9,((jw):Int).toNat * 3+2,none⟩=some (.string ((aC ep (jw)).f2)):=dx 2 _ rfl
    have gi:World.frozen? _ ⟨a9,((jw):Int).toNat * 3,none⟩=false:=dy 0
    have gj:World.frozen? _ ⟨a9,((jw):Int).toNat * 3+1,none⟩=false:=dy 1
    have gl:World.frozen? _ ⟨a9,((jw):Int).toNat * 3+2,none⟩=false:=dy 2
    clear BA dx dy iz
    replace de:=eq_true de
    replace df:=eq_true df
    obtain ⟨mi,fq,j5,fs,j9⟩:=Kd.oP KI.out z43 ((jw):Int) (bF bG) (by have dG:((jw):Int) < ((a5.length:Int):Int):=bF bG;first|exact dG|(have e_:=(Kd.dN bJ.out).1;omega)|simpa using dG)
    obtain rfl:=oW j5
    have Cj:=(Kd.yc KI.out ((jw):Int) (bF bG) (by have dG:((jw):Int) < ((a5.length:Int):Int):=bF bG;first|exact dG|(have e_:=(Kd.dN bJ.out).1;omega)|simpa using dG) (seg:=[.string ((aC a5 a6).f0),.bool ((aC a5 a6).f1),.string ((aC a5 a6).f2)]) (j:=0) fq fs (show 3≤3 from by decide) (x':=(⟨(aC a5 a6).f0,(aC a5 a6).f1,(aC a5 a6).f2⟩:aF)) (qp _ _ _ (⟨(aC a5 a6).f0,(aC a5 a6).f1,(aC a5 a6).f2⟩:aF) ) (fun _ hk=>hk)).1
    rw [← ik.out] at Cj
    have Iy:=m_ Cj
    clear fq fs j9 j5 Cj
    refine iT (n:=18) (S:=fun w'=>KX w' a9 (((jw)).toNat * 3) (.string ((aC a5 (jw)).f0)) (.bool ((aC a5 (jw)).f1)) (.string ((aC a5 (jw)).f2)) <| KY w' a9 (((a6).toNat * 3)) (.string ((aC a5 a6).f0)) (.bool ((aC a5 a6).f1)) (.string ((aC a5 a6).f2))) (ds:=[15,17]) PO aB rfl rfl ⟨aQ,al,am,an,ao,ap⟩ (fun hH=>?_);refine kE (T:=fM.T11) (B:=fM.B11) aB aB (fun aO fJ=>?_)
    generalize wr.drew=n8 at bJ HK HB lp KI Iy gd gf gh gi gj gl b8 b9 ba bb bc bd aQ al am an ao ap hH ⊢
    refine bV 0 ?_
    refine bV 1 ?_
    refine bV 2 ?_
    refine bV 3 ?_
    refine bV 4 ?_
    refine bV 5 ?_
    refine bV 6 ?_
    refine bV 7 ?_
    refine bV 8 ?_
    refine bV 10 ?_
    refine bV 11 ?_
    refine bV 12 ?_
    refine lg 9 hH ?_
    refine lg 13 hH ?_
    refine bV 14 ?_
    refine xQ 15 (fun K hK=>?_)
    refine iM (w1:=?_) (by rfl) rfl ?_ ?_
    rotate_left
    ·go_simp
     rfl
    refine hK.out _ _ ?_
    clear hK K
    refine bV 16 ?_
    refine xQ 17 (fun K hK=>?_)
    refine iM (w1:=?_) (by rfl) rfl ?_ ?_
    rotate_left
    ·obtain ⟨P5,Qp,DC,wB,wC⟩:=Kd.oP bJ.out z43 ((jw):Int) (of_eq_true de) (of_eq_true df)
     obtain rfl:=oW DC
     have Qb:World.frozen? _ ⟨a9,((jw):Int).toNat * 3,none⟩=false:=wC 0
     have Ei:World.cell? _ ⟨a9,((jw):Int).toNat * 3,none⟩=some _:=wB 0 _ rfl
     obtain ⟨_,P9⟩:=cell?_setCell_some (p:=⟨a9,(a6:Int).toNat * 3,none⟩) (x:=.string ((aC a5 (jw)).f0)) Ei
     have Qc:World.frozen? _ ⟨a9,((jw):Int).toNat * 3+1,none⟩=false:=wC 1
     have Ej:World.cell? _ ⟨a9,((jw):Int).toNat * 3+1,none⟩=some _:=wB 1 _ rfl
     obtain ⟨_,Dp⟩:=cell?_setCell_some (p:=⟨a9,(a6:Int).toNat * 3,none⟩) (x:=.string ((aC a5 (jw)).f0)) Ej
     obtain ⟨_,P_⟩:=cell?_setCell_some (p:=⟨a9,(a6:Int).toNat * 3+1,none⟩) (x:=.bool ((aC a5 (jw)).f1)) Dp
     have Qd:World.frozen? _ ⟨a9,((jw):Int).toNat * 3+2,none⟩=false:=wC 2
     have Em:World.cell? _ ⟨a9,((jw):Int).toNat * 3+2,none⟩=some _:=wB 2 _ rfl
     obtain ⟨_,Dq⟩:=cell?_setCell_some (p:=⟨a9,(a6:Int).toNat * 3,none⟩) (x:=.string ((aC a5 (jw)).f0)) Em
     obtain ⟨_,Dt⟩:=cell?_setCell_some (p:=⟨a9,(a6:Int).toNat * 3+1,none⟩) (x:=.bool ((aC a5 (jw)).f1)) Dq
     obtain ⟨_,Qa⟩:=cell?_setCell_some (p:=⟨a9,(a6:Int).toNat * 3+2,none⟩) (x:=.string ((aC a5 (jw)).f2)) Dt
     go_simp
     rfl
    refine hK.out _ _ ?_
    clear hK K
    refine iP (ku aO.out aB) ?_
    try go_wp2
    go_roundg k2
    case measure=>have:=gZ.out;have:=jM.out;omega
    case rel=>exact ⟨(ij),(jw),(by first|rfl|(simp;done)|(simp only [← MP] <;> (first|rfl|simp))|(simp [*];done)),H',⟨J8⟩,⟨(aJ Iy)⟩,⟨(by repeat (first|(with_reducible first|exact HK.out|apply Kept.alloc|apply Kept.drewN|apply Kept.drew|refine Kept.setCell ?_ EJ.out _|refine Kept.setCell ?_ EJ.out _|refine Kept.setCell ?_ EJ.out _|refine Kept.setCell ?_ EJ.out _|refine Kept.setCell ?_ EJ.out _|refine Kept.setCell ?_ EJ.out _)|exact HK.out))⟩,⟨(by repeat (first|(with_reducible first|exact HB.out|apply mY|apply qN|apply lC|refine iF ?_ eb.out|refine iF ?_ eb.out|refine iF ?_ eb.out|refine iF ?_ eb.out|refine iF ?_ eb.out|refine iF ?_ eb.out)|exact HB.out))⟩⟩
 have iO:=fP c6
 have cv:=fQ c6
 revert H;refine fH (fun dz H=>?_) fun dz H=>?_
 ·have cd:=fZ dz
  have ce:=f_ dz
  clear dz
  have H':=m_ H
  clear H
  go_enter func133,ntmps133
  go_wp2
  go_loopg [14,15] k (fun kq v14 v15 w'=>∃ (b6:Int) (cf:Int),v14=ah b6∧v15=ah cf∧aA (fM.l2 kq l0 a2 b6 cf=some r)∧aA (kq≤k)∧aA (Kd.R aU 43 w' w0.heap.size (fun ay=>(dU ay∨w.heap.size≤ay)) je l0)∧aA (Kept w w' (fun ay=>dU ay))∧aA (Below w0.heap.size w0 w'))
  case atStart=>exact ⟨(a1),(a2),bg,bg,H',⟨Nat.le_refl _⟩,⟨(aJ lc)⟩,⟨jc⟩,⟨au⟩⟩
  case round=>as_aux_lemma =>
   clear H'
   try clear c6;try clear iO;try clear cv;try clear dz;try clear cd;try clear ce
   obtain ⟨b6,cf,rfl,rfl,HA,gZ,bJ,HK,HB⟩:=hrel
   cases gk with
   | zero=>exact absurd HA.out (by simp [fM.l2])
   | succ k1 =>
   obtain ⟨H⟩:=HA
   simp only [fM.l2] at H
   revert H;refine gJ (fun ct H=>?_) fun ct H=>?_
   ·obtain ⟨d0,H⟩:=gK H
    obtain ⟨d1,H⟩:=gK H
    obtain ⟨rX,GU⟩:∃ lU:Int,(wrap64 ((IntKind.u64.wrap (wrap64 (b6+cf))) / 2))=lU:=⟨_,rfl⟩
    replace H:(if 0≤(rX) then (if (rX) < (l0.length:Int) then ((vJ.f ((aC l0 a2).f0) ((aC l0 a2).f1) ((aC l0 a2).f2) ((aC l0 (rX)).f0) ((aC l0 (rX)).f1) ((aC l0 (rX)).f2)).bind fun fj=>(if fj < 0 then (fM.l2 k1 l0 a2 b6 rX) else (fM.l2 k1 l0 a2 (wrap64 ((rX)+1)) cf))) else (none)) else (none))=some r:=by first|(rw [GU] at H;exact H)|(simp only [GU] at H ⊢;exact H)
    have awD:(IntKind.i64.wrap ((IntKind.u64.wrap (wrap64 (b6+cf))) / 2))=rX:=(aY _).trans GU
    obtain ⟨d2,H⟩:=gK H
    obtain ⟨d3,H⟩:=gK H
    obtain ⟨fj,mj,H⟩:=bd_ H
    have ja:=m_ H
    clear H
    try go_wp2
    obtain ⟨bJ,HK,HB⟩:=p_ (Kd.aZ bJ.out) <| p_ (Kept.drew HK.out) <| a_ (lC HB.out)
    obtain ⟨ml,mm,jb⟩:=Kd.dK bJ.out
    (first|subst jb|(injection jb with dV gU dW;have gV:=dV.symm;have gW:=dW.symm;clear dV gU dW;subst gV;subst gW))
    have d7:0≤(a2:Int):=bF bG
    have d8:a2 < (l0.length:Int):=bF bG
    obtain ⟨be,Hr,aq,ar,aW⟩:=kY (Kd.dN bJ.out).2.2 a2 d7 d8
    cases Hr
    replace d7:=eq_true d7
    replace d8:=eq_true d8
    have d9:0≤((rX):Int):=bF bG
    have da:(rX) < (l0.length:Int):=bF bG
    obtain ⟨G7,lr,av,aw,ax⟩:=kY (Kd.dN bJ.out).2.2 (rX) d9 da
    obtain rfl:be=G7:=(by injection lr)
    replace d9:=eq_true d9
    replace da:=eq_true da
    refine iT (n:=12) (S:=fun w'=>Ky w' (be.add ((a2).toNat * 3)) (.string ((aC l0 a2).f0)) (.bool ((aC l0 a2).f1)) (.string ((aC l0 a2).f2)) <| xX w' (be.add (((rX)).toNat * 3)) (.string ((aC l0 (rX)).f0)) (.bool ((aC l0 (rX)).f1)) (.string ((aC l0 (rX)).f2))) (ds:=[]) #[F_,F_,F_,F_,F_,F_,F_,F_,F_,F_,F_,F_] aB rfl rfl ⟨aq,ar,aW,av,aw,ax⟩ (fun hH=>?_);refine kE (T:=fM.abZ) (B:=fM.aa2) aB aB (fun aO fJ=>?_)
    generalize wr.drew=n9 at bJ HK HB aq ar aW av aw ax hH ⊢
    refine cu 0 92 #[aj,F_,F_,F_,F_,F_,F_,F_,F_,F_,F_,F_] aO ?_
    refine cu 1 93 #[aj,aj,F_,F_,F_,F_,F_,F_,F_,F_,F_,F_] aO ?_
    refine cu 2 94 #[aj,aj,aj,F_,F_,F_,F_,F_,F_,F_,F_,F_] aO ?_
    refine cu 3 95 #[aj,aj,aj,aj,F_,F_,F_,F_,F_,F_,F_,F_] aO ?_
    refine cu 5 97 #[aj,aj,aj,aj,F_,aj,F_,F_,F_,F_,F_,F_] aO ?_
    refine cu 6 98 #[aj,aj,aj,aj,F_,aj,aj,F_,F_,F_,F_,F_] aO ?_
    refine cu 7 99 #[aj,aj,aj,aj,F_,aj,aj,aj,F_,F_,F_,F_] aO ?_
    refine jZ 4 96 #[aj,aj,aj,aj,aj,aj,aj,aj,F_,F_,F_,F_] aO fJ hH ?_
    refine jZ 8 100 #[aj,aj,aj,aj,aj,aj,aj,aj,aj,F_,F_,F_] aO fJ hH ?_
    refine fD (i:=9) (N:=some 101) #[aj,aj,aj,aj,aj,aj,aj,aj,aj,aj,F_,F_] rfl rfl (jq aO.out aB) (by decide) (fun K hK=>?_)
    refine LD func48 aB rfl #[.agg #[.string ((aC l0 a2).f0),.bool ((aC l0 a2).f1),.string ((aC l0 a2).f2)],.agg #[.string ((aC l0 (rX)).f0),.bool ((aC l0 (rX)).f1),.string ((aC l0 (rX)).f2)]] (by rfl) rfl rfl (by rfl) (by (try simp only [List.map_toArray,List.map_cons,List.map_nil]);first|done|(simp only [GU];rfl)|rfl|(simp only [List.length_drop,List.length_take];rfl)) ?_
    with_reducible refine (vJ.calls ((aC l0 a2).f0) ((aC l0 a2).f1) ((aC l0 a2).f2) ((aC l0 (rX)).f0) ((aC l0 (rX)).f1) ((aC l0 (rX)).f2) fj _ mj.out).mono ?_
    rintro e na ⟨rfl,hb⟩
    have Cm:=(hb.cell (World.block_lt_of_cell? _ _ (hH.1))).trans (hH.1)
    have CB:=(hb.cell (World.block_lt_of_cell? _ _ (hH.2.1))).trans (hH.2.1)
    have CG:=(hb.cell (World.block_lt_of_cell? _ _ (hH.2.2.1))).trans (hH.2.2.1)
    have CJ:=(hb.cell (World.block_lt_of_cell? _ _ (hH.2.2.2.1))).trans (hH.2.2.2.1)
    have CO:=(hb.cell (World.block_lt_of_cell? _ _ (hH.2.2.2.2.1))).trans (hH.2.2.2.2.1)
    have nM:=(hb.cell (World.block_lt_of_cell? _ _ (hH.2.2.2.2.2))).trans (hH.2.2.2.2.2)
    refine ⟨_,rfl,?_⟩
    obtain ⟨bJ,HK,HB⟩:=p_ (Kd.dw (aJ bJ) hb) <| p_ (Kept.below (S:=(fun ay=>dU ay)) jc hb) <| a_ (dP au hb)
    (try clear hb)
    refine hK.out _ _ ⟨Cm,CB,CG,CJ,CO,nM⟩ (fun hH=>?_)
    clear hK K
    refine eX (some 101) ?_
    refine cu 10 102 #[aj,aj,aj,aj,aj,aj,aj,aj,aj,aj,aj,F_] aO ?_
    refine cu 11 103 #[aj,aj,aj,aj,aj,aj,aj,aj,aj,aj,aj,aj] aO ?_
    refine iP (ku aO.out aB) ?_
    go_upto_if 103 with (fail)
    (try clear aq ar aW)
    (try clear av aw ax)
    obtain ⟨H⟩:=ja
    revert H;refine gJ (fun fA H=>?_) fun fA H=>?_
    ·try simp only [aY,bf,fA]
     have H':=m_ H
     clear H
     go_wp2
     go_roundg k1
     case measure=>have:=gZ.out;omega
     case rel=>exact ⟨(b6),(rX),bg,(by first|rfl|(simp;done)|(simp only [← GU] <;> (first|rfl|simp))|(simp [*];done)),H',⟨ou⟩,⟨(aJ bJ)⟩,⟨jc⟩,⟨au⟩⟩
    try simp only [aY,bf,fA]
    have H':=m_ H
    clear H
    go_wp2
    go_roundg k1
    case measure=>have:=gZ.out;omega
    case rel=>exact ⟨(wrap64 ((rX)+1)),(cf),(by first|rfl|(simp;done)|(simp only [← GU] <;> (first|rfl|simp))|(simp [*];done)),bg,H',⟨ou⟩,⟨(aJ bJ)⟩,⟨jc⟩,⟨au⟩⟩
   have H':=m_ H
   clear H
   go_wp2
   go_loopg [17] k1 (fun kq v17 w'=>∃ (a5:List (aF)) (a7:Int),v17=ah a7∧aA (fM.l3 kq a5 b6 a7=some r)∧aA (kq≤k1)∧aA (Kd.R aU 43 w' w0.heap.size (fun ay=>(dU ay∨w.heap.size≤ay)) je a5)∧aA (Kept w w' (fun ay=>dU ay))∧aA (Below w0.heap.size w0 w'))
   case atStart=>exact ⟨(l0),(a2),bg,H',⟨Nat.le_refl _⟩,⟨(aJ bJ)⟩,⟨jc⟩,⟨au⟩⟩
   case round=>as_aux_lemma =>
    clear H'
    try clear en;try clear ct
    obtain ⟨a5,a7,rfl,HA,jM,bJ,HK,HB⟩:=hrel
    cases gk with
    | zero=>exact absurd HA.out (by simp [fM.l3])
    | succ k2 =>
    obtain ⟨H⟩:=HA
    simp only [fM.l3] at H
    revert H;refine gJ (fun d4 H=>?_) fun d4 H=>?_
    rotate_left
    ·obtain rfl:=dF H
     go_wp2
     first|go_end0|((try simp only [Exit.inBlock,Exit.then]);refine bodyPost_ret (results_none rfl _ _ _) rfl ?_)
     exact ⟨bM,(aJ bJ),au,jc⟩
    obtain ⟨jy,MS⟩:∃ lU:Int,(wrap64 (a7 - 1))=lU:=⟨_,rfl⟩
    replace H:(if 0≤(jy) then (if (jy) < (a5.length:Int) then (if 0≤a7 then (if a7 < (a5.length:Int) then (fM.l3 k2 ((a5.set (a7:Int).toNat (⟨(aC a5 (jy)).f0,(aC a5 (jy)).f1,(aC a5 (jy)).f2⟩:aF)).set ((jy):Int).toNat (⟨(aC a5 a7).f0,(aC a5 a7).f1,(aC a5 a7).f2⟩:aF)) b6 jy) else (none)) else (none)) else (none)) else (none))=some r:=by first|(rw [MS] at H;exact H)|(simp only [MS] at H ⊢;exact H)
    have awH:(IntKind.i64.wrap (a7 - 1))=jy:=(aY _).trans MS
    obtain ⟨dj,H⟩:=gK H
    obtain ⟨dk,H⟩:=gK H
    obtain ⟨dl,H⟩:=gK H
    obtain ⟨dm,H⟩:=gK H
    obtain ⟨et,tY⟩:∃ y_:List (aF),y_=(a5.set (a7:Int).toNat (⟨(aC a5 (jy)).f0,(aC a5 (jy)).f1,(aC a5 (jy)).f2⟩:aF)):=⟨_,rfl⟩
    rw [← tY] at H
    have G8:=m_ tY
    clear tY
    obtain ⟨JF,ev⟩:∃ y_:List (aF),y_=(et.set ((jy):Int).toNat (⟨(aC a5 a7).f0,(aC a5 a7).f1,(aC a5 a7).f2⟩:aF)):=⟨_,rfl⟩
    rw [← ev] at H
    have G9:=m_ ev
    clear ev
    have H':=m_ H
    clear H
    try go_wp2
    obtain ⟨bJ,HK,HB⟩:=p_ (Kd.aZ bJ.out) <| p_ (Kept.drew HK.out) <| a_ (lC HB.out)
    obtain ⟨mo,mq,DY⟩:=Kd.dK bJ.out
    (first|subst DY|(injection DY with dV gU dW;have gV:=dV.symm;have gW:=dW.symm;clear dV gU dW;subst gV;subst gW))
    have lF:0≤((jy):Int):=bF bG
    have dp:(jy) < (a5.length:Int):=bF bG
    obtain ⟨DZ,ls,bH,az,b0⟩:=kY (Kd.dN bJ.out).2.2 (jy) lF dp
    cases ls
    replace lF:=eq_true lF
    replace dp:=eq_true dp
    have dq:0≤(a7:Int):=bF bG
    have dr:a7 < (a5.length:Int):=bF bG
    obtain ⟨G_,Ns,b1,b2,b3⟩:=kY (Kd.dN bJ.out).2.2 a7 dq dr
    obtain rfl:DZ=G_:=(by injection Ns)
    replace dq:=eq_true dq
    replace dr:=eq_true dr
    have ec:0≤(a7:Int):=bF bG
    have ed:(a7:Int) < ((a5.length:Int):Int):=bF bG
    obtain ⟨aa,mr,jj,D5,lv,ms,BD⟩:=Kd.yQ bJ.out (by omega)
    (first|cases jj|(injection jj with kQ uX uV;(first|subst kQ|(injection kQ with kQ;subst kQ));subst uV;clear uX))
    have ee:=m_ D5
    have lw:=m_ BD
    clear D5 lv BD
    have EK:=m_ (show (dU aa∨w.heap.size≤aa) from (bJ.out.1 _ rfl))
    (first|simp only [add_plain] at bH|skip)
    (first|simp only [add_plain] at az|skip)
    (first|simp only [add_plain] at b0|skip)
    (first|simp only [add_plain] at b1|skip)
    (first|simp only [add_plain] at b2|skip)
    (first|simp only [add_plain] at b3|skip)
    obtain ⟨mt,D6,jn,e0,e3⟩:=Kd.oP bJ.out z43 (a7:Int) ec ed
    obtain rfl:=oW jn
    have bp:World.cell? _ ⟨aa,(a7:Int).toNat * 3,none⟩=some (.string ((aC a5 a7).f0)):=e0 0 _ rfl
    have bq:World.cell? _ ⟨aa,(a7:Int).toNat * 3+1,none⟩=some (.bool ((aC a5 a7).f1)):=e0 1 _ rfl
    have br:World.cell? _ ⟨aa,(a7:Int).toNat * 3+2,none⟩=some (.string ((aC a5 a7).f2)):=e0 2 _ rfl
    have yu:World.frozen? _ ⟨aa,(a7:Int).toNat * 3,none⟩=false:=e3 0
    have gr:World.frozen? _ ⟨aa,(a7:Int).toNat * 3+1,none⟩=false:=e3 1
    have gs:World.frozen? _ ⟨aa,(a7:Int).toNat * 3+2,none⟩=false:=e3 2
    clear D6 e0 e3 jn
    replace ec:=eq_true ec
    replace ed:=eq_true ed
    obtain ⟨mu,fy,D7,fz,jp⟩:=Kd.oP bJ.out z43 (a7:Int) (bF bG) (by have dG:(a7:Int) < ((a5.length:Int):Int):=bF bG;first|exact dG|(have e_:=(Kd.dN bJ.out).1;omega)|simpa using dG)
    obtain rfl:=oW D7
    have OO:=(Kd.yc bJ.out (a7:Int) (bF bG) (by have dG:(a7:Int) < ((a5.length:Int):Int):=bF bG;first|exact dG|(have e_:=(Kd.dN bJ.out).1;omega)|simpa using dG) (seg:=[.string ((aC a5 (jy)).f0),.bool ((aC a5 (jy)).f1),.string ((aC a5 (jy)).f2)]) (j:=0) fy fz (show 3≤3 from by decide) (x':=(⟨(aC a5 (jy)).f0,(aC a5 (jy)).f1,(aC a5 (jy)).f2⟩:aF)) (qp _ _ _ (⟨(aC a5 (jy)).f0,(aC a5 (jy)).f1,(aC a5 (jy)).f2⟩:aF) ) (fun _ hk=>hk)).1
    rw [← G8.out] at OO
    have KJ:=m_ OO
    clear fy fz jp D7 OO
    have e4:0≤((jy):Int):=bF bG
    have e5:((jy):Int) < ((a5.length:Int):Int):=bF bG
    obtain ⟨mv,Tt,Nb,e6,e7⟩:=Kd.oP KJ.out z43 ((jy):Int) e4 e5
    obtain rfl:=oW Nb
    have bs:World.cell? _ ⟨aa,((jy):Int).toNat * 3,none⟩=some (.string ((aC et (jy)).f0)):=e6 0 _ rfl
    have bu:World.cell? _ ⟨aa,((jy):Int).toNat * 3+1,none⟩=some (.bool ((aC et (jy)).f1)):=e6 1 _ rfl
    have bv:World.cell? _ ⟨aa,((jy):Int).toNat * 3+2,none⟩=some (.string ((aC et (jy)).f2)):=e6 2 _ rfl
    have gt:World.frozen? _ ⟨aa,((jy):Int).toNat * 3,none⟩=false:=e7 0
    have Am:World.frozen? _ ⟨aa,((jy):Int).toNat * 3+1,none⟩=false:=e7 1
    have gv:World.frozen? _ ⟨aa,((jy):Int).toNat * 3+2,none⟩=false:=e7 2
    clear Tt e6 e7 Nb
    replace e4:=eq_true e4
    replace e5:=eq_true e5
    obtain ⟨mw,g7,js,g8,jt⟩:=Kd.oP KJ.out z43 ((jy):Int) (bF bG) (by have dG:((jy):Int) < ((a5.length:Int):Int):=bF bG;first|exact dG|(have e_:=(Kd.dN bJ.out).1;omega)|simpa using dG)
    obtain rfl:=oW js
    have OQ:=(Kd.yc KJ.out ((jy):Int) (bF bG) (by have dG:((jy):Int) < ((a5.length:Int):Int):=bF bG;first|exact dG|(have e_:=(Kd.dN bJ.out).1;omega)|simpa using dG) (seg:=[.string ((aC a5 a7).f0),.bool ((aC a5 a7).f1),.string ((aC a5 a7).f2)]) (j:=0) g7 g8 (show 3≤3 from by decide) (x':=(⟨(aC a5 a7).f0,(aC a5 a7).f1,(aC a5 a7).f2⟩:aF)) (qp _ _ _ (⟨(aC a5 a7).f0,(aC a5 a7).f1,(aC a5 a7).f2⟩:aF) ) (fun _ hk=>hk)).1
    rw [← G9.out] at OQ
    have U9:=m_ OQ
    clear g7 g8 jt js OQ
    refine iT (n:=18) (S:=fun w'=>KX w' aa (((jy)).toNat * 3) (.string ((aC a5 (jy)).f0)) (.bool ((aC a5 (jy)).f1)) (.string ((aC a5 (jy)).f2)) <| KY w' aa (((a7).toNat * 3)) (.string ((aC a5 a7).f0)) (.bool ((aC a5 a7).f1)) (.string ((aC a5 a7).f2))) (ds:=[15,17]) PO aB rfl rfl ⟨bH,az,b0,b1,b2,b3⟩ (fun hH=>?_);refine kE (T:=fM.ab2) (B:=fM.aa5) aB aB (fun aO fJ=>?_)
    generalize wr.drew=nb at bJ HK HB lw KJ U9 yu gr gs gt Am gv bH az b0 b1 b2 b3 bp bq br bs bu bv hH ⊢
    refine bV 0 ?_
    refine bV 1 ?_
    refine bV 2 ?_
    refine bV 3 ?_
    refine bV 4 ?_
    refine bV 5 ?_
    refine bV 6 ?_
    refine bV 7 ?_
    refine bV 8 ?_
    refine bV 10 ?_
    refine bV 11 ?_
    refine bV 12 ?_
    refine lg 9 hH ?_
    refine lg 13 hH ?_
    refine bV 14 ?_
    refine xQ 15 (fun K hK=>?_)
    refine iM (w1:=?_) (by rfl) rfl ?_ ?_
    rotate_left
    ·go_simp
     rfl
    refine hK.out _ _ ?_
    clear hK K
    refine bV 16 ?_
    refine xQ 17 (fun K hK=>?_)
    refine iM (w1:=?_) (by rfl) rfl ?_ ?_
    rotate_left
    ·obtain ⟨P5,Qp,DC,wB,wC⟩:=Kd.oP bJ.out z43 ((jy):Int) (of_eq_true e4) (of_eq_true e5)
     obtain rfl:=oW DC
     have Qb:World.frozen? _ ⟨aa,((jy):Int).toNat * 3,none⟩=false:=wC 0
     have Ei:World.cell? _ ⟨aa,((jy):Int).toNat * 3,none⟩=some _:=wB 0 _ rfl
     obtain ⟨_,P9⟩:=cell?_setCell_some (p:=⟨aa,(a7:Int).toNat * 3,none⟩) (x:=.string ((aC a5 (jy)).f0)) Ei
     have Qc:World.frozen? _ ⟨aa,((jy):Int).toNat * 3+1,none⟩=false:=wC 1
     have Ej:World.cell? _ ⟨aa,((jy):Int).toNat * 3+1,none⟩=some _:=wB 1 _ rfl
     obtain ⟨_,Dp⟩:=cell?_setCell_some (p:=⟨aa,(a7:Int).toNat * 3,none⟩) (x:=.string ((aC a5 (jy)).f0)) Ej
     obtain ⟨_,P_⟩:=cell?_setCell_some (p:=⟨aa,(a7:Int).toNat * 3+1,none⟩) (x:=.bool ((aC a5 (jy)).f1)) Dp
     have Qd:World.frozen? _ ⟨aa,((jy):Int).toNat * 3+2,none⟩=false:=wC 2
     have Em:World.cell? _ ⟨aa,((jy):Int).toNat * 3+2,none⟩=some _:=wB 2 _ rfl
     obtain ⟨_,Dq⟩:=cell?_setCell_some (p:=⟨aa,(a7:Int).toNat * 3,none⟩) (x:=.string ((aC a5 (jy)).f0)) Em
     obtain ⟨_,Dt⟩:=cell?_setCell_some (p:=⟨aa,(a7:Int).toNat * 3+1,none⟩) (x:=.bool ((aC a5 (jy)).f1)) Dq
     obtain ⟨_,Qa⟩:=cell?_setCell_some (p:=⟨aa,(a7:Int).toNat * 3+2,none⟩) (x:=.string ((aC a5 (jy)).f2)) Dt
     go_simp
     rfl
    refine hK.out _ _ ?_
    clear hK K
    refine iP (ku aO.out aB) ?_
    try go_wp2
    go_roundg k2
    case measure=>have:=gZ.out;have:=jM.out;omega
    case rel=>exact ⟨(JF),(jy),(by first|rfl|(simp;done)|(simp only [← MS] <;> (first|rfl|simp))|(simp [*];done)),H',⟨J8⟩,⟨(aJ U9)⟩,⟨(by repeat (first|(with_reducible first|exact HK.out|apply Kept.alloc|apply Kept.drewN|apply Kept.drew|refine Kept.setCell ?_ EK.out _|refine Kept.setCell ?_ EK.out _|refine Kept.setCell ?_ EK.out _|refine Kept.setCell ?_ EK.out _|refine Kept.setCell ?_ EK.out _|refine Kept.setCell ?_ EK.out _)|exact HK.out))⟩,⟨(by repeat (first|(with_reducible first|exact HB.out|apply mY|apply qN|apply lC|refine iF ?_ ee.out|refine iF ?_ ee.out|refine iF ?_ ee.out|refine iF ?_ ee.out|refine iF ?_ ee.out|refine iF ?_ ee.out)|exact HB.out))⟩⟩
 have cd:=fP dz
 have ce:=fQ dz
 have gw:=m_ H
 clear H
 go_enter func133,ntmps133
 go_upto_if 140 with (fail)
 go_cut [20,21] (fun v20 v21 wc=>∃ (kq:Nat) (db:Int) (dd:Int),v20=ah db∧v21=ah dd∧aA (fM.j4 kq l0 a1 a2 a3 a4 (wrap64 ((IntKind.u64.wrap (wrap64 (a1+a3))) / 2)) (wrap64 ((wrap64 ((IntKind.u64.wrap (wrap64 (a1+a3))) / 2))+a2)) db dd=some r)∧aA (kq≤k)∧aA (Kd.R aU 43 wc w0.heap.size (fun ay=>(dU ay∨w.heap.size≤ay)) je l0)∧aA (Kept w wc (fun ay=>dU ay))∧aA (Below w0.heap.size w0 wc))
 case first =>
  obtain ⟨H⟩:=gw
  revert H;refine gJ (fun bo H=>?_) fun bo H=>?_
  rotate_left
  ·try simp only [aY,bf,bo]
   have H':=m_ H
   clear H
   go_wp2
   go_meet
   case rel=>exact ⟨_,(a1),(a2),bg,bg,H',⟨kC⟩,⟨(aJ lc)⟩,⟨jc⟩,⟨au⟩⟩
  try simp only [aY,bf,bo]
  have H':=m_ H
  clear H
  go_wp2
  go_meet
  case rel=>exact ⟨_,(wrap64 ((wrap64 ((wrap64 ((IntKind.u64.wrap (wrap64 (a1+a3))) / 2))+a2)) - a3)),(wrap64 ((IntKind.u64.wrap (wrap64 (a1+a3))) / 2)),bg,bg,H',⟨kC⟩,⟨(aJ lc)⟩,⟨jc⟩,⟨au⟩⟩
 case rest =>
 clear gw
 try clear c6;try clear iO;try clear cv;try clear dz;try clear cd;try clear ce
 obtain ⟨kq,db,dd,rfl,rfl,HA,xZ,bJ,HK,HB⟩:=hcut
 cases kq with
 | zero=>exact absurd HA.out (by simp [fM.j4])
 | succ Nq =>
 obtain ⟨H⟩:=HA
 simp only [fM.j4] at H
 have H':=m_ H
 clear H
 go_wp2
 go_loopg [20,21] Nq (fun kq v20 v21 w'=>∃ (a8:Int) (aN:Int),v20=ah a8∧v21=ah aN∧aA (fM.l4 kq l0 a1 a2 a3 a4 (wrap64 ((IntKind.u64.wrap (wrap64 (a1+a3))) / 2)) (wrap64 ((wrap64 ((IntKind.u64.wrap (wrap64 (a1+a3))) / 2))+a2)) a8 aN (wrap64 ((wrap64 ((wrap64 ((IntKind.u64.wrap (wrap64 (a1+a3))) / 2))+a2)) - 1))=some r)∧aA (kq≤Nq)∧aA (Kd.R aU 43 w' w0.heap.size (fun ay=>(dU ay∨w.heap.size≤ay)) je l0)∧aA (Kept w w' (fun ay=>dU ay))∧aA (Below w0.heap.size w0 w'))
 case atStart=>exact ⟨(db),(dd),bg,bg,H',⟨Nat.le_refl _⟩,⟨(aJ bJ)⟩,⟨jc⟩,⟨au⟩⟩
 case round=>as_aux_lemma =>
  clear H'
  obtain ⟨a8,aN,rfl,rfl,HA,jM,bJ,HK,HB⟩:=hrel
  cases gk with
  | zero=>exact absurd HA.out (by simp [fM.l4])
  | succ k2 =>
  obtain ⟨H⟩:=HA
  simp only [fM.l4] at H
  revert H;refine gJ (fun e8 H=>?_) fun e8 H=>?_
  ·obtain ⟨qM,Jg⟩:∃ lU:Int,(wrap64 ((wrap64 ((wrap64 ((wrap64 ((IntKind.u64.wrap (wrap64 (a1+a3))) / 2))+a2)) - 1)) - (wrap64 ((IntKind.u64.wrap (wrap64 (a8+aN))) / 2))))=lU:=⟨_,rfl⟩
   replace H:(if 0≤(qM) then (if (qM) < (l0.length:Int) then (if 0≤(wrap64 ((IntKind.u64.wrap (wrap64 (a8+aN))) / 2)) then (if (wrap64 ((IntKind.u64.wrap (wrap64 (a8+aN))) / 2)) < (l0.length:Int) then ((vJ.f ((aC l0 (qM)).f0) ((aC l0 (qM)).f1) ((aC l0 (qM)).f2) ((aC l0 (wrap64 ((IntKind.u64.wrap (wrap64 (a8+aN))) / 2))).f0) ((aC l0 (wrap64 ((IntKind.u64.wrap (wrap64 (a8+aN))) / 2))).f1) ((aC l0 (wrap64 ((IntKind.u64.wrap (wrap64 (a8+aN))) / 2))).f2)).bind fun ef=>(if ef < 0 then (fM.l4 k2 l0 a1 a2 a3 a4 (wrap64 ((IntKind.u64.wrap (wrap64 (a1+a3))) / 2)) (wrap64 ((wrap64 ((IntKind.u64.wrap (wrap64 (a1+a3))) / 2))+a2)) a8 (wrap64 ((IntKind.u64.wrap (wrap64 (a8+aN))) / 2)) (wrap64 ((wrap64 ((wrap64 ((IntKind.u64.wrap (wrap64 (a1+a3))) / 2))+a2)) - 1))) else (fM.l4 k2 l0 a1 a2 a3 a4 (wrap64 ((IntKind.u64.wrap (wrap64 (a1+a3))) / 2)) (wrap64 ((wrap64 ((IntKind.u64.wrap (wrap64 (a1+a3))) / 2))+a2)) (wrap64 ((wrap64 ((IntKind.u64.wrap (wrap64 (a8+aN))) / 2))+1)) aN (wrap64 ((wrap64 ((wrap64 ((IntKind.u64.wrap (wrap64 (a1+a3))) / 2))+a2)) - 1))))) else (none)) else (none)) else (none)) else (none))=some r:=by first|(rw [Jg] at H;exact H)|(simp only [Jg] at H ⊢;exact H)
   have awJ:(IntKind.i64.wrap ((wrap64 ((wrap64 ((wrap64 ((IntKind.u64.wrap (wrap64 (a1+a3))) / 2))+a2)) - 1)) - (wrap64 ((IntKind.u64.wrap (wrap64 (a8+aN))) / 2))))=qM:=(aY _).trans Jg
   obtain ⟨ex,H⟩:=gK H
   obtain ⟨ey,H⟩:=gK H
   obtain ⟨qo,DI⟩:∃ lU:Int,(wrap64 ((IntKind.u64.wrap (wrap64 (a8+aN))) / 2))=lU:=⟨_,rfl⟩
   replace H:(if 0≤(qo) then (if (qo) < (l0.length:Int) then ((vJ.f ((aC l0 (qM)).f0) ((aC l0 (qM)).f1) ((aC l0 (qM)).f2) ((aC l0 (qo)).f0) ((aC l0 (qo)).f1) ((aC l0 (qo)).f2)).bind fun ef=>(if ef < 0 then (fM.l4 k2 l0 a1 a2 a3 a4 (wrap64 ((IntKind.u64.wrap (wrap64 (a1+a3))) / 2)) (wrap64 ((wrap64 ((IntKind.u64.wrap (wrap64 (a1+a3))) / 2))+a2)) a8 qo (wrap64 ((wrap64 ((wrap64 ((IntKind.u64.wrap (wrap64 (a1+a3))) / 2))+a2)) - 1))) else (fM.l4 k2 l0 a1 a2 a3 a4 (wrap64 ((IntKind.u64.wrap (wrap64 (a1+a3))) / 2)) (wrap64 ((wrap64 ((IntKind.u64.wrap (wrap64 (a1+a3))) / 2))+a2)) (wrap64 ((qo)+1)) aN (wrap64 ((wrap64 ((wrap64 ((IntKind.u64.wrap (wrap64 (a1+a3))) / 2))+a2)) - 1))))) else (none)) else (none))=some r:=by first|(rw [DI] at H;exact H)|(simp only [DI] at H ⊢;exact H)
   have awK:(IntKind.i64.wrap ((IntKind.u64.wrap (wrap64 (a8+aN))) / 2))=qo:=(aY _).trans DI
   have aiq:(wrap64 ((wrap64 ((wrap64 ((wrap64 ((IntKind.u64.wrap (wrap64 (a1+a3))) / 2))+a2)) - 1)) - qo))=qM:=by rw [← DI];exact Jg
   have awI:(IntKind.i64.wrap ((wrap64 ((wrap64 ((wrap64 ((IntKind.u64.wrap (wrap64 (a1+a3))) / 2))+a2)) - 1)) - qo))=qM:=(aY _).trans aiq
   obtain ⟨ez,H⟩:=gK H
   obtain ⟨f7,H⟩:=gK H
   obtain ⟨ef,my,H⟩:=bd_ H
   have JI:=m_ H
   clear H
   try go_wp2
   obtain ⟨bJ,HK,HB⟩:=p_ (Kd.aZ bJ.out) <| p_ (Kept.drew HK.out) <| a_ (lC HB.out)
   obtain ⟨mz,n0,jz⟩:=Kd.dK bJ.out
   (first|subst jz|(injection jz with dV gU dW;have gV:=dV.symm;have gW:=dW.symm;clear dV gU dW;subst gV;subst gW))
   have eh:0≤((qM):Int):=bF bG
   have ei:(qM) < (l0.length:Int):=bF bG
   obtain ⟨dM,lx,bh,bi,bj⟩:=kY (Kd.dN bJ.out).2.2 (qM) eh ei
   cases lx
   replace eh:=eq_true eh
   replace ei:=eq_true ei
   have ej:0≤((qo):Int):=bF bG
   have ek:(qo) < (l0.length:Int):=bF bG
   obtain ⟨l5,ly,bl,bm,fB⟩:=kY (Kd.dN bJ.out).2.2 (qo) ej ek
   obtain rfl:dM=l5:=(by injection ly)
   replace ej:=eq_true ej
   replace ek:=eq_true ek
   refine iT (n:=14) (S:=fun w'=>Ky w' (dM.add (((qM)).toNat * 3)) (.string ((aC l0 (qM)).f0)) (.bool ((aC l0 (qM)).f1)) (.string ((aC l0 (qM)).f2)) <| xX w' (dM.add (((qo)).toNat * 3)) (.string ((aC l0 (qo)).f0)) (.bool ((aC l0 (qo)).f1)) (.string ((aC l0 (qo)).f2))) (ds:=[]) IW aB rfl rfl ⟨bh,bi,bj,bl,bm,fB⟩ (fun hH=>?_);refine kE (T:=fM.O9) (B:=fM.Ou) aB aB (fun aO fJ=>?_)
   generalize wr.drew=nc at bJ HK HB bh bi bj bl bm fB hH ⊢
   refine bV 0 ?_
   refine bV 1 ?_
   refine cu 2 160 #[aj,aj,aj,F_,F_,F_,F_,F_,F_,F_,F_,F_,F_,F_] aO ?_
   refine cu 3 161 #[aj,aj,aj,aj,F_,F_,F_,F_,F_,F_,F_,F_,F_,F_] aO ?_
   refine bV 4 ?_
   refine bV 5 ?_
   refine cu 7 165 #[aj,aj,aj,aj,aj,aj,F_,aj,F_,F_,F_,F_,F_,F_] aO ?_
   refine cu 8 166 #[aj,aj,aj,aj,aj,aj,F_,aj,aj,F_,F_,F_,F_,F_] aO ?_
   refine cu 9 167 #[aj,aj,aj,aj,aj,aj,F_,aj,aj,aj,F_,F_,F_,F_] aO ?_
   refine lg 6 hH ?_
   refine lg 10 hH ?_
   refine oZ 11 (fun K hK=>?_)
   refine LD func48 aB rfl #[.agg #[.string ((aC l0 (qM)).f0),.bool ((aC l0 (qM)).f1),.string ((aC l0 (qM)).f2)],.agg #[.string ((aC l0 (qo)).f0),.bool ((aC l0 (qo)).f1),.string ((aC l0 (qo)).f2)]] (by rfl) rfl rfl (by rfl) (by (try simp only [List.map_toArray,List.map_cons,List.map_nil]);first|done|(simp only [Jg,DI];rfl)|rfl|(simp only [List.length_drop,List.length_take];rfl)) ?_
   with_reducible refine (vJ.calls ((aC l0 (qM)).f0) ((aC l0 (qM)).f1) ((aC l0 (qM)).f2) ((aC l0 (qo)).f0) ((aC l0 (qo)).f1) ((aC l0 (qo)).f2) ef _ my.out).mono ?_
   rintro e ne ⟨rfl,hb⟩
   have Cm:=(hb.cell (World.block_lt_of_cell? _ _ (hH.1))).trans (hH.1)
   have CB:=(hb.cell (World.block_lt_of_cell? _ _ (hH.2.1))).trans (hH.2.1)
   have CG:=(hb.cell (World.block_lt_of_cell? _ _ (hH.2.2.1))).trans (hH.2.2.1)
   have CJ:=(hb.cell (World.block_lt_of_cell? _ _ (hH.2.2.2.1))).trans (hH.2.2.2.1)
   have CO:=(hb.cell (World.block_lt_of_cell? _ _ (hH.2.2.2.2.1))).trans (hH.2.2.2.2.1)
   have nM:=(hb.cell (World.block_lt_of_cell? _ _ (hH.2.2.2.2.2))).trans (hH.2.2.2.2.2)
   refine ⟨_,rfl,?_⟩
   obtain ⟨bJ,HK,HB⟩:=p_ (Kd.dw (aJ bJ) hb) <| p_ (Kept.below (S:=(fun ay=>dU ay)) jc hb) <| a_ (dP au hb)
   (try clear hb)
   refine hK.out _ _ ⟨Cm,CB,CG,CJ,CO,nM⟩ (fun hH=>?_)
   clear hK K
   refine eX (some 169) ?_
   refine bV 12 ?_
   refine bV 13 ?_
   refine iP (ku aO.out aB) ?_
   go_upto_if 171 with (fail)
   (try clear bh bi bj)
   (try clear bl bm fB)
   obtain ⟨H⟩:=JI
   revert H;refine gJ (fun cg H=>?_) fun cg H=>?_
   ·try simp only [aY,bf,cg]
    have H':=m_ H
    clear H
    go_wp2
    go_roundg k2
    case measure=>have:=xZ.out;have:=jM.out;omega
    case rel=>exact ⟨(a8),(qo),bg,(by first|rfl|(simp;done)|(simp only [← DI] <;> (first|rfl|simp))|(simp [*];done)),H',⟨(by have:=xZ.out;have:=jM.out;omega)⟩,⟨(aJ bJ)⟩,⟨jc⟩,⟨au⟩⟩
   try simp only [aY,bf,cg]
   have H':=m_ H
   clear H
   go_wp2
   go_roundg k2
   case measure=>have:=xZ.out;have:=jM.out;omega
   case rel=>exact ⟨(wrap64 ((qo)+1)),(aN),(by first|rfl|(simp;done)|(simp only [← DI] <;> (first|rfl|simp))|(simp [*];done)),bg,H',⟨(by have:=xZ.out;have:=jM.out;omega)⟩,⟨(aJ bJ)⟩,⟨jc⟩,⟨au⟩⟩
  have gx:=m_ H
  clear H
  go_upto_region 39 with (fail)
  go_cut [185] (fun akK wc=>∃ (kq:Nat) (ci:Bool),akK=.bool ci∧aA (fM.j6 kq l0 a1 a2 a3 a4 (wrap64 ((IntKind.u64.wrap (wrap64 (a1+a3))) / 2)) a8 (wrap64 ((wrap64 ((wrap64 ((IntKind.u64.wrap (wrap64 (a1+a3))) / 2))+a2)) - a8)) ci=some r)∧aA (kq≤k2)∧aA (Kd.R aU 43 wc w0.heap.size (fun ay=>(dU ay∨w.heap.size≤ay)) je l0)∧aA (Kept w wc (fun ay=>dU ay))∧aA (Below w0.heap.size w0 wc))
  case first =>
   obtain ⟨H⟩:=gx
   revert H;refine gJ (fun ch H=>?_) fun ch H=>?_
   rotate_left
   ·try simp only [aY,bf,ch]
    have H':=m_ H
    clear H
    go_wp2
    go_meet
    case rel=>exact ⟨_,(false),bg,H',⟨(by have:=xZ.out;have:=jM.out;first|omega|exact Nat.le_refl _)⟩,⟨(aJ bJ)⟩,⟨jc⟩,⟨au⟩⟩
   try simp only [aY,bf,ch]
   have H':=m_ H
   clear H
   go_wp2
   go_meet
   case rel=>exact ⟨_,(decide (a2 < (wrap64 ((wrap64 ((wrap64 ((IntKind.u64.wrap (wrap64 (a1+a3))) / 2))+a2)) - a8)))),bg,H',⟨(by have:=xZ.out;have:=jM.out;first|omega|exact Nat.le_refl _)⟩,⟨(aJ bJ)⟩,⟨jc⟩,⟨au⟩⟩
  case rest =>
  clear gx
  try clear fk;try clear e8
  obtain ⟨kq,ci,rfl,HA,Iw,bJ,HK,HB⟩:=hcut
  cases kq with
  | zero=>exact absurd HA.out (by simp [fM.j6])
  | succ Zh =>
  obtain ⟨H⟩:=HA
  simp only [fM.j6] at H
  have Ap:=m_ H
  clear H
  go_upto_if 185 with (fail)
  go_cut [] (fun wc=>∃ (kq:Nat) (ab:List (aF)),aA (fM.j7 kq ab a1 a3 a4 (wrap64 ((IntKind.u64.wrap (wrap64 (a1+a3))) / 2)) a8 (wrap64 ((wrap64 ((wrap64 ((IntKind.u64.wrap (wrap64 (a1+a3))) / 2))+a2)) - a8))=some r)∧aA (kq≤Zh)∧aA (Kd.R aU 43 wc w0.heap.size (fun ay=>(dU ay∨w.heap.size≤ay)) je ab)∧aA (Kept w wc (fun ay=>dU ay))∧aA (Below w0.heap.size w0 wc))
  case first =>
   obtain ⟨H⟩:=Ap
   by_cases i8:ci=true
   rotate_left
   ·replace i8:=Bool.eq_false_iff.mpr i8
    subst i8
    rw [if_neg iI] at H
    have H':=m_ H
    clear H
    go_wp2
    go_meet
    case rel=>exact ⟨_,(l0),H',⟨(by have:=xZ.out;have:=jM.out;have:=Iw.out;first|omega|exact Nat.le_refl _)⟩,⟨(aJ bJ)⟩,⟨jc⟩,⟨au⟩⟩
   subst i8
   rw [if_pos rfl] at H
   obtain ⟨l6,n1,H⟩:=bd_ H
   have H':=m_ H
   clear H
   obtain ⟨gz,h8,lz⟩:=Kd.dK bJ.out
   subst lz
   go_wp2_with (first|((with_reducible refine bT 148 ?_);refine bU (some 191) rfl rfl func148 aB rfl #[.slice gz l0.length h8,ah a8,ah a2,ah (wrap64 ((wrap64 ((wrap64 ((IntKind.u64.wrap (wrap64 (a1+a3))) / 2))+a2)) - a8)),.func (.func 48) #[] #[]] rfl aX ?_;(with_reducible refine (yF.calls Zh (fun ay=>some ay=(.slice gz l0.length h8:Value).ownBlock) (.slice gz l0.length h8) l0 a8 a2 (wrap64 ((wrap64 ((wrap64 ((IntKind.u64.wrap (wrap64 (a1+a3))) / 2))+a2)) - a8)) a4 l6 w0 _ au (Kd.tV rfl bJ.out) n1.out).mono ?_);rintro e nf ⟨rfl,e9,hb,hkp⟩;refine ⟨_,rfl,?_⟩;obtain ⟨bJ,HK,HB⟩:=p_ (Kd.wS rfl e9 (fun ay e_=>bJ.out.1 ay e_)) <| p_ (Kept.then_ (S:=(fun ay=>dU ay)) jc hkp (fun ay hs_=>(fun e_=>(bJ.out.1 ay e_.symm)) hs_)) <| a_ (hb);(try clear hb);(try clear hkp);(try clear e9)))
   go_meet
   case rel=>exact ⟨_,(l6),H',⟨(by have:=xZ.out;have:=jM.out;have:=Iw.out;first|omega|exact Nat.le_refl _)⟩,⟨(aJ bJ)⟩,⟨jc⟩,⟨au⟩⟩
  case rest =>
  clear Ap
  obtain ⟨kq,ab,HA,OC,bJ,HK,HB⟩:=hcut
  cases kq with
  | zero=>exact absurd HA.out (by simp [fM.j7])
  | succ aji =>
  obtain ⟨H⟩:=HA
  simp only [fM.j7] at H
  have h9:=m_ H
  clear H
  go_upto_region 41 with (fail)
  go_cut [199] (fun akL wc=>∃ (kq:Nat) (cj:Bool),akL=.bool cj∧aA (fM.j8 kq ab a1 a3 a4 (wrap64 ((IntKind.u64.wrap (wrap64 (a1+a3))) / 2)) a8 (wrap64 ((wrap64 ((wrap64 ((IntKind.u64.wrap (wrap64 (a1+a3))) / 2))+a2)) - a8)) cj=some r)∧aA (kq≤aji)∧aA (Kd.R aU 43 wc w0.heap.size (fun ay=>(dU ay∨w.heap.size≤ay)) je ab)∧aA (Kept w wc (fun ay=>dU ay))∧aA (Below w0.heap.size w0 wc))
  case first =>
   obtain ⟨H⟩:=h9
   revert H;refine gJ (fun d5 H=>?_) fun d5 H=>?_
   rotate_left
   ·try simp only [aY,bf,d5]
    have H':=m_ H
    clear H
    go_wp2
    go_meet
    case rel=>exact ⟨_,(false),bg,H',⟨(by have:=xZ.out;have:=jM.out;have:=Iw.out;have:=OC.out;first|omega|exact Nat.le_refl _)⟩,⟨(aJ bJ)⟩,⟨jc⟩,⟨au⟩⟩
   try simp only [aY,bf,d5]
   have H':=m_ H
   clear H
   go_wp2
   go_meet
   case rel=>exact ⟨_,(decide (a8 < (wrap64 ((IntKind.u64.wrap (wrap64 (a1+a3))) / 2)))),bg,H',⟨(by have:=xZ.out;have:=jM.out;have:=Iw.out;have:=OC.out;first|omega|exact Nat.le_refl _)⟩,⟨(aJ bJ)⟩,⟨jc⟩,⟨au⟩⟩
  case rest =>
  clear h9
  obtain ⟨kq,cj,rfl,HA,abw,bJ,HK,HB⟩:=hcut
  cases kq with
  | zero=>exact absurd HA.out (by simp [fM.j8])
  | succ Nr =>
  obtain ⟨H⟩:=HA
  simp only [fM.j8] at H
  by_cases lj:cj=true
  rotate_left
  ·replace lj:=Bool.eq_false_iff.mpr lj
   subst lj
   rw [if_neg iI] at H
   revert H;refine gJ (fun JL H=>?_) fun JL H=>?_
   rotate_left
   ·obtain rfl:=dF H
    go_wp2
    first|go_end0|((try simp only [Exit.inBlock,Exit.then]);refine bodyPost_ret (results_none rfl _ _ _) rfl ?_)
    exact ⟨bM,(aJ bJ),au,jc⟩
   revert H;refine gJ (fun l8 H=>?_) fun l8 H=>?_
   rotate_left
   ·obtain rfl:=dF H
    go_wp2
    first|go_end0|((try simp only [Exit.inBlock,Exit.then]);refine bodyPost_ret (results_none rfl _ _ _) rfl ?_)
    exact ⟨bM,(aJ bJ),au,jc⟩
   obtain ⟨m0,n3,H⟩:=bd_ H
   obtain rfl:=dF H
   obtain ⟨hu,hy,m2⟩:=Kd.dK bJ.out
   subst m2
   go_wp2_with (first|((with_reducible refine bT 133 ?_);refine bU (some 219) rfl rfl func133 aB rfl #[.slice hu ab.length hy,ah (wrap64 ((IntKind.u64.wrap (wrap64 (a1+a3))) / 2)),ah (wrap64 ((wrap64 ((wrap64 ((IntKind.u64.wrap (wrap64 (a1+a3))) / 2))+a2)) - a8)),ah a3,.func (.func 48) #[] #[]] rfl aX ?_;(with_reducible refine (ih Nr NQ (fun ay=>some ay=(.slice hu ab.length hy:Value).ownBlock) (.slice hu ab.length hy) ab (wrap64 ((IntKind.u64.wrap (wrap64 (a1+a3))) / 2)) (wrap64 ((wrap64 ((wrap64 ((IntKind.u64.wrap (wrap64 (a1+a3))) / 2))+a2)) - a8)) a3 a4 m0 w0 _ au (Kd.tV rfl bJ.out) n3.out).mono ?_);rintro e ajC ⟨rfl,e9,hb,hkp⟩;refine ⟨_,rfl,?_⟩;obtain ⟨bJ,HK,HB⟩:=p_ (Kd.wS rfl e9 (fun ay e_=>bJ.out.1 ay e_)) <| p_ (Kept.then_ (S:=(fun ay=>dU ay)) jc hkp (fun ay hs_=>(fun e_=>(bJ.out.1 ay e_.symm)) hs_)) <| a_ (hb);(try clear hb);(try clear hkp);(try clear e9)))
   first|go_end0|((try simp only [Exit.inBlock,Exit.then]);refine bodyPost_ret (results_none rfl _ _ _) rfl ?_)
   exact ⟨bM,(aJ bJ),au,jc⟩
  subst lj
  rw [if_pos rfl] at H
  obtain ⟨i1,m6,H⟩:=bd_ H
  revert H;refine gJ (fun D8 H=>?_) fun D8 H=>?_
  rotate_left
  ·obtain rfl:=dF H
   obtain ⟨i2,i3,m3⟩:=Kd.dK bJ.out
   subst m3
   go_wp2_with (first|((with_reducible refine bT 133 ?_);refine bU (some 205) rfl rfl func133 aB rfl #[.slice i2 ab.length i3,ah a1,ah a8,ah (wrap64 ((IntKind.u64.wrap (wrap64 (a1+a3))) / 2)),.func (.func 48) #[] #[]] rfl aX ?_;(with_reducible refine (ih Nr NQ (fun ay=>some ay=(.slice i2 ab.length i3:Value).ownBlock) (.slice i2 ab.length i3) ab a1 a8 (wrap64 ((IntKind.u64.wrap (wrap64 (a1+a3))) / 2)) a4 i1 w0 _ au (Kd.tV rfl bJ.out) m6.out).mono ?_);rintro e nh ⟨rfl,e9,hb,hkp⟩;refine ⟨_,rfl,?_⟩;obtain ⟨bJ,HK,HB⟩:=p_ (Kd.wS rfl e9 (fun ay e_=>bJ.out.1 ay e_)) <| p_ (Kept.then_ (S:=(fun ay=>dU ay)) jc hkp (fun ay hs_=>(fun e_=>(bJ.out.1 ay e_.symm)) hs_)) <| a_ (hb);(try clear hb);(try clear hkp);(try clear e9)))
   first|go_end0|((try simp only [Exit.inBlock,Exit.then]);refine bodyPost_ret (results_none rfl _ _ _) rfl ?_)
   exact ⟨bM,(aJ bJ),au,jc⟩
  have la:=m_ H
  clear H
  obtain ⟨el,em,m4⟩:=Kd.dK bJ.out
  subst m4
  go_upto_if 213 with (first|((with_reducible refine bT 133 ?_);refine bU (some 205) rfl rfl func133 aB rfl #[.slice el ab.length em,ah a1,ah a8,ah (wrap64 ((IntKind.u64.wrap (wrap64 (a1+a3))) / 2)),.func (.func 48) #[] #[]] rfl aX ?_;(with_reducible refine (ih Nr NQ (fun ay=>some ay=(.slice el ab.length em:Value).ownBlock) (.slice el ab.length em) ab a1 a8 (wrap64 ((IntKind.u64.wrap (wrap64 (a1+a3))) / 2)) a4 i1 w0 _ au (Kd.tV rfl bJ.out) m6.out).mono ?_);rintro e ajD ⟨rfl,e9,hb,hkp⟩;refine ⟨_,rfl,?_⟩;obtain ⟨bJ,HK,HB⟩:=p_ (Kd.wS rfl e9 (fun ay e_=>bJ.out.1 ay e_)) <| p_ (Kept.then_ (S:=(fun ay=>dU ay)) jc hkp (fun ay hs_=>(fun e_=>(bJ.out.1 ay e_.symm)) hs_)) <| a_ (hb);(try clear hb);(try clear hkp);(try clear e9)))
  (try simp only [Act.put,List.setIfInBounds_toArray,List.set_cons_zero,List.set_cons_succ])
  obtain ⟨H⟩:=la
  revert H;refine gJ (fun dt H=>?_) fun dt H=>?_
  rotate_left
  ·try simp only [aY,bf,dt]
   obtain rfl:=dF H
   go_wp2
   first|go_end0|((try simp only [Exit.inBlock,Exit.then]);refine bodyPost_ret (results_none rfl _ _ _) rfl ?_)
   exact ⟨bM,(aJ bJ),au,jc⟩
  try simp only [aY,bf,dt]
  obtain ⟨m5,n4,H⟩:=bd_ H
  obtain rfl:=dF H
  go_wp2_with (first|((with_reducible refine bT 133 ?_);refine bU (some 219) rfl rfl func133 aB rfl #[.slice el ab.length em,ah (wrap64 ((IntKind.u64.wrap (wrap64 (a1+a3))) / 2)),ah (wrap64 ((wrap64 ((wrap64 ((IntKind.u64.wrap (wrap64 (a1+a3))) / 2))+a2)) - a8)),ah a3,.func (.func 48) #[] #[]] rfl aX ?_;(with_reducible refine (ih Nr NQ (fun ay=>some ay=(.slice el ab.length em:Value).ownBlock) (.slice el ab.length em) i1 (wrap64 ((IntKind.u64.wrap (wrap64 (a1+a3))) / 2)) (wrap64 ((wrap64 ((wrap64 ((IntKind.u64.wrap (wrap64 (a1+a3))) / 2))+a2)) - a8)) a3 a4 m5 w0 _ au (Kd.tV rfl bJ.out) n4.out).mono ?_);rintro e nj ⟨rfl,e9,hb,hkp⟩;refine ⟨_,rfl,?_⟩;obtain ⟨bJ,HK,HB⟩:=p_ (Kd.wS rfl e9 (fun ay e_=>bJ.out.1 ay e_)) <| p_ (Kept.then_ (S:=(fun ay=>dU ay)) jc hkp (fun ay hs_=>(fun e_=>(bJ.out.1 ay e_.symm)) hs_)) <| a_ (hb);(try clear hb);(try clear hkp);(try clear e9)))
  first|go_end0|((try simp only [Exit.inBlock,Exit.then]);refine bodyPost_ret (results_none rfl _ _ _) rfl ?_)
  exact ⟨bM,(aJ bJ),au,jc⟩

end Go.Proofs.YthejdhjpbpamoaaGreatDoor.jD
