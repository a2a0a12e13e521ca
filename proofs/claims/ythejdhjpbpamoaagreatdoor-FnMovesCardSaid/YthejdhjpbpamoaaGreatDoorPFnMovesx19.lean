/- Contracts of Go functions: each call returns what the Lean function beside it computes. Conditions: as each theorem states them. -/
import Derived.Test.YthejdhjpbpamoaaGreatDoorPkFnMoves
import Derived.Test.YthejdhjpbpamoaaGreatDoorPFnMovesx1
import Derived.Test.YthejdhjpbpamoaaGreatDoorPFnMovesx17
import Derived.Test.YthejdhjpbpamoaaGreatDoorPFnMovesx18
namespace Go.Proofs.YthejdhjpbpamoaaGreatDoor.jM
open Go.RowKit Go.Proofs.YthejdhjpbpamoaaGreatDoorW.iK Go.Proofs.YthejdhjpbpamoaaGreatDoorW.lX Go.Proofs.YthejdhjpbpamoaaGreatDoorW.oV Go.Proofs.Tryz
attribute [local go_sem] qI qM qL qP qK qO qJ qN   -- for this text's walks alone
set_option linter.unusedVariables false
set_option maxHeartbeats 8000000
set_option maxRecDepth 100000
set_option linter.unusedSimpArgs false

mutual
def d_.l0:Nat→List (aC)→Int→Int→Int→Option ((List (aC)))
 | 0,_,_,_,_=>none
 | k+1,x0,x1,a5,a6=>if a5 < a6 then (if 0≤(wrap64 ((IntKind.u64.wrap (wrap64 (a5+a6))) / 2)) then (if (wrap64 ((IntKind.u64.wrap (wrap64 (a5+a6))) / 2)) < (x0.length:Int) then (if 0≤x1 then (if x1 < (x0.length:Int) then ((sQ.f ((au x0 (wrap64 ((IntKind.u64.wrap (wrap64 (a5+a6))) / 2))).f0) ((au x0 (wrap64 ((IntKind.u64.wrap (wrap64 (a5+a6))) / 2))).f1) ((au x0 (wrap64 ((IntKind.u64.wrap (wrap64 (a5+a6))) / 2))).f2) ((au x0 x1).f0) ((au x0 x1).f1) ((au x0 x1).f2)).bind fun a7=>(if a7 < 0 then (d_.l0 k x0 x1 (wrap64 ((wrap64 ((IntKind.u64.wrap (wrap64 (a5+a6))) / 2))+1)) a6) else (d_.l0 k x0 x1 a5 (wrap64 ((IntKind.u64.wrap (wrap64 (a5+a6))) / 2))))) else (none)) else (none)) else (none)) else (none)) else (d_.l1 k x0 a5 x1)
def d_.l1:Nat→List (aC)→Int→Int→Option ((List (aC)))
 | 0,_,_,_=>none
 | k+1,x0,a6,a5=>if a5 < (wrap64 (a6 - 1)) then (if 0≤(wrap64 (a5+1)) then (if (wrap64 (a5+1)) < (x0.length:Int) then (if 0≤a5 then (if a5 < (x0.length:Int) then (d_.l1 k ((x0.set (a5:Int).toNat (⟨(au x0 (wrap64 (a5+1))).f0,(au x0 (wrap64 (a5+1))).f1,(au x0 (wrap64 (a5+1))).f2⟩:aC)).set ((wrap64 (a5+1)):Int).toNat (⟨(au x0 a5).f0,(au x0 a5).f1,(au x0 a5).f2⟩:aC)) a6 (wrap64 (a5+1))) else (none)) else (none)) else (none)) else (none)) else (some x0)
def d_.l2:Nat→List (aC)→Int→Int→Int→Option ((List (aC)))
 | 0,_,_,_,_=>none
 | k+1,x0,x2,a5,a6=>if a5 < a6 then (if 0≤x2 then (if x2 < (x0.length:Int) then (if 0≤(wrap64 ((IntKind.u64.wrap (wrap64 (a5+a6))) / 2)) then (if (wrap64 ((IntKind.u64.wrap (wrap64 (a5+a6))) / 2)) < (x0.length:Int) then ((sQ.f ((au x0 x2).f0) ((au x0 x2).f1) ((au x0 x2).f2) ((au x0 (wrap64 ((IntKind.u64.wrap (wrap64 (a5+a6))) / 2))).f0) ((au x0 (wrap64 ((IntKind.u64.wrap (wrap64 (a5+a6))) / 2))).f1) ((au x0 (wrap64 ((IntKind.u64.wrap (wrap64 (a5+a6))) / 2))).f2)).bind fun a7=>(if a7 < 0 then (d_.l2 k x0 x2 a5 (wrap64 ((IntKind.u64.wrap (wrap64 (a5+a6))) / 2))) else (d_.l2 k x0 x2 (wrap64 ((wrap64 ((IntKind.u64.wrap (wrap64 (a5+a6))) / 2))+1)) a6))) else (none)) else (none)) else (none)) else (none)) else (d_.l3 k x0 a5 x2)
def d_.l3:Nat→List (aC)→Int→Int→Option ((List (aC)))
 | 0,_,_,_=>none
 | k+1,x0,a6,a5=>if a5 > a6 then (if 0≤(wrap64 (a5 - 1)) then (if (wrap64 (a5 - 1)) < (x0.length:Int) then (if 0≤a5 then (if a5 < (x0.length:Int) then (d_.l3 k ((x0.set (a5:Int).toNat (⟨(au x0 (wrap64 (a5 - 1))).f0,(au x0 (wrap64 (a5 - 1))).f1,(au x0 (wrap64 (a5 - 1))).f2⟩:aC)).set ((wrap64 (a5 - 1)):Int).toNat (⟨(au x0 a5).f0,(au x0 a5).f1,(au x0 a5).f2⟩:aC)) a6 (wrap64 (a5 - 1))) else (none)) else (none)) else (none)) else (none)) else (some x0)
def d_.j4:Nat→List (aC)→Int→Int→Int→Unit→Int→Int→Int→Int→Option ((List (aC)))
 | 0,_,_,_,_,_,_,_,_,_=>none
 | k+1,x0,x1,x2,x3,x4,a6,a5,a7,a8=>d_.l4 k x0 x1 x2 x3 x4 a6 a5 a7 a8 (wrap64 (a5 - 1))
def d_.l4:Nat→List (aC)→Int→Int→Int→Unit→Int→Int→Int→Int→Int→Option ((List (aC)))
 | 0,_,_,_,_,_,_,_,_,_,_=>none
 | k+1,x0,x1,x2,x3,x4,a9,a8,a5,a6,a7=>if a5 < a6 then (if 0≤(wrap64 (a7 - (wrap64 ((IntKind.u64.wrap (wrap64 (a5+a6))) / 2)))) then (if (wrap64 (a7 - (wrap64 ((IntKind.u64.wrap (wrap64 (a5+a6))) / 2)))) < (x0.length:Int) then (if 0≤(wrap64 ((IntKind.u64.wrap (wrap64 (a5+a6))) / 2)) then (if (wrap64 ((IntKind.u64.wrap (wrap64 (a5+a6))) / 2)) < (x0.length:Int) then ((sQ.f ((au x0 (wrap64 (a7 - (wrap64 ((IntKind.u64.wrap (wrap64 (a5+a6))) / 2))))).f0) ((au x0 (wrap64 (a7 - (wrap64 ((IntKind.u64.wrap (wrap64 (a5+a6))) / 2))))).f1) ((au x0 (wrap64 (a7 - (wrap64 ((IntKind.u64.wrap (wrap64 (a5+a6))) / 2))))).f2) ((au x0 (wrap64 ((IntKind.u64.wrap (wrap64 (a5+a6))) / 2))).f0) ((au x0 (wrap64 ((IntKind.u64.wrap (wrap64 (a5+a6))) / 2))).f1) ((au x0 (wrap64 ((IntKind.u64.wrap (wrap64 (a5+a6))) / 2))).f2)).bind fun aa=>(if aa < 0 then (d_.l4 k x0 x1 x2 x3 x4 a9 a8 a5 (wrap64 ((IntKind.u64.wrap (wrap64 (a5+a6))) / 2)) a7) else (d_.l4 k x0 x1 x2 x3 x4 a9 a8 (wrap64 ((wrap64 ((IntKind.u64.wrap (wrap64 (a5+a6))) / 2))+1)) a6 a7))) else (none)) else (none)) else (none)) else (none)) else (if a5 < x2 then (d_.j6 k x0 x1 x2 x3 x4 a9 a5 (wrap64 (a8 - a5)) (decide (x2 < (wrap64 (a8 - a5))))) else (d_.j6 k x0 x1 x2 x3 x4 a9 a5 (wrap64 (a8 - a5)) false))
def d_.j6:Nat→List (aC)→Int→Int→Int→Unit→Int→Int→Int→Bool→Option ((List (aC)))
 | 0,_,_,_,_,_,_,_,_,_=>none
 | k+1,x0,x1,x2,x3,x4,a9,a5,a6,a7=>if a7=true then ((uZ.f k x0 a5 x2 a6 x4).bind fun a8=>(d_.j7 k a8 x1 x3 x4 a9 a5 a6)) else (d_.j7 k x0 x1 x3 x4 a9 a5 a6)
def d_.j7:Nat→List (aC)→Int→Int→Unit→Int→Int→Int→Option ((List (aC)))
 | 0,_,_,_,_,_,_,_=>none
 | k+1,x0,x1,x3,x4,a6,a5,a7=>if x1 < a5 then (d_.j8 k x0 x1 x3 x4 a6 a5 a7 (decide (a5 < a6))) else (d_.j8 k x0 x1 x3 x4 a6 a5 a7 false)
def d_.j8:Nat→List (aC)→Int→Int→Unit→Int→Int→Int→Bool→Option ((List (aC)))
 | 0,_,_,_,_,_,_,_,_=>none
 | k+1,x0,x1,x3,x4,a7,ab,a6,a8=>if a8=true then ((d_.f k x0 x1 ab a7 x4).bind fun a5=>(if a7 < a6 then (if a6 < x3 then ((d_.f k a5 a7 a6 x3 x4).bind fun a9=>(some a9)) else (some a5)) else (some a5))) else (if a7 < a6 then (if a6 < x3 then ((d_.f k x0 a7 a6 x3 x4).bind fun aa=>(some aa)) else (some x0)) else (some x0))
def d_.f:Nat→List (aC)→Int→Int→Int→Unit→Option ((List (aC)))
 | 0,_,_,_,_,_=>none
 | k+1,l0,a1,a2,a3,a4=>if (wrap64 (a2 - a1))=1 then (d_.l0 k l0 a1 a2 a3) else (if (wrap64 (a3 - a2))=1 then (d_.l2 k l0 a2 a1 a2) else (if a2 > (wrap64 ((IntKind.u64.wrap (wrap64 (a1+a3))) / 2)) then (d_.j4 k l0 a1 a2 a3 a4 (wrap64 ((IntKind.u64.wrap (wrap64 (a1+a3))) / 2)) (wrap64 ((wrap64 ((IntKind.u64.wrap (wrap64 (a1+a3))) / 2))+a2)) (wrap64 ((wrap64 ((wrap64 ((IntKind.u64.wrap (wrap64 (a1+a3))) / 2))+a2)) - a3)) (wrap64 ((IntKind.u64.wrap (wrap64 (a1+a3))) / 2))) else (d_.j4 k l0 a1 a2 a3 a4 (wrap64 ((IntKind.u64.wrap (wrap64 (a1+a3))) / 2)) (wrap64 ((wrap64 ((IntKind.u64.wrap (wrap64 (a1+a3))) / 2))+a2)) a1 a2)))
end
def d_.T5:Bool × List (List Nat × List Nat):=(true,[([],[]),([],[]),([],[]),([1,2],[1,2]),([3],[3]),([],[]),([],[]),([5,6],[5,6]),([7],[7]),([0,4,8],[0,4,8]),([9],[9])])
def d_.B5:List Nat:=[0,0,0,6,14,0,0,96,224,511,1023]
def d_.T11:Bool × List (List Nat × List Nat):=(true,[([],[]),([],[]),([],[]),([],[]),([3],[3]),([],[]),([],[]),([6],[6]),([5,7],[5,7]),([8],[8]),([],[]),([],[]),([10,11],[10,11]),([12],[12]),([0,1,0,1,5,6,7,8,9,13],[0,1]),([14,9,0,1,5,6,7,8,9,13],[9,14]),([2,4,0,1,2,3,4,5,6,7,8,9,10,11,12,13,14,15],[2,4]),([16,13,15,0,1,2,3,4,5,6,7,8,9,10,11,12,13,14,15],[13,16])])
def d_.B11:List Nat:=[0,0,0,0,8,0,0,64,224,480,0,0,3072,7168,16355,32739,65535,131071]
def d_.Yu:Bool × List (List Nat × List Nat):=(true,[([],[]),([],[]),([],[]),([1,2],[1,2]),([3],[3]),([],[]),([],[]),([5,6],[5,6]),([7],[7]),([0,4,8],[0,4,8]),([9],[9]),([10],[10])])
def d_.XI:List Nat:=[0,0,0,6,14,0,0,96,224,511,1023,2047]
def d_.Yw:Bool × List (List Nat × List Nat):=(true,[([],[]),([],[]),([],[]),([],[]),([3],[3]),([],[]),([],[]),([6],[6]),([5,7],[5,7]),([8],[8]),([],[]),([],[]),([10,11],[10,11]),([12],[12]),([0,1,0,1,5,6,7,8,9,13],[0,1]),([14,9,0,1,5,6,7,8,9,13],[9,14]),([2,4,0,1,2,3,4,5,6,7,8,9,10,11,12,13,14,15],[2,4]),([16,13,15,0,1,2,3,4,5,6,7,8,9,10,11,12,13,14,15],[13,16])])
def d_.XK:List Nat:=[0,0,0,0,8,0,0,64,224,480,0,0,3072,7168,16355,32739,65535,131071]
def d_.MB:Bool × List (List Nat × List Nat):=(true,[([],[]),([],[]),([],[]),([],[]),([2,3],[2,3]),([1,4],[1,4]),([5],[5]),([],[]),([],[]),([7,8],[7,8]),([9],[9]),([0,6,10],[0,6,10]),([11],[11]),([12],[12])])
def d_.Le:List Nat:=[0,0,0,0,12,30,62,0,0,384,896,2047,4095,8191]
theorem d_.calls (k:Nat):∀ (eG:Nat→Prop) (jk:Value) (l0:List (aC)) (a1:Int) (a2:Int) (a3:Int) (a4:Unit) (r:List (aC)) (w0 w:World) (hB:Below w0.heap.size w0 w) (ho0:Kd.R bF 43 w w0.heap.size eG jk l0) (h:d_.f k l0 a1 a2 a3 a4=some r),
  Calls Tryz.prog 133 #[jk,ah a1,ah a2,ah a3,.func (.func 48) #[] #[]] w fun e w'=>e=.returned (.tuple #[])∧Kd.R bF 43 w' w0.heap.size (fun aF=>(eG aF∨w.heap.size≤aF)) jk r∧Below w0.heap.size w0 w'∧Kept w w' (fun aF=>eG aF):=by
 induction k using Nat.strongRecOn with
 | _ k ih =>
 intro eG jk l0 a1 a2 a3 a4 r w0 w hB ho0 h
 cases k with
 | zero=>exact absurd h (by simp [d_.f])
 | succ k =>
 simp only [d_.f] at h
 have rF:=underlying43
 have l5:=m_ (show Kd.R bF 43 w w0.heap.size (fun aF=>(eG aF∨w.heap.size≤aF)) jk l0 from Kd.bW ho0 (fun aF hk=>(.inl hk)))
 have HK:=m_ (Kept.refl w (fun aF=>eG aF))
 have HW0:=m_ hB.size
 have HB:=m_ hB
 clear hB
 have H:=h
 clear h
 revert H;refine fJ (fun c6 H=>?_) fun c6 H=>?_
 ·have jg:=gZ c6
  have cv:=g_ c6
  clear c6
  have H':=m_ H
  clear H
  go_enter func133,ntmps133
  go_wp2
  go_loopg [10,11] k (fun kq v10 v11 w'=>∃ (b4:Int) (bw:Int),v10=ah b4∧v11=ah bw∧aA (d_.l0 kq l0 a1 b4 bw=some r)∧aA (kq≤k)∧aA (Kd.R bF 43 w' w0.heap.size (fun aF=>(eG aF∨w.heap.size≤aF)) jk l0)∧aA (Kept w w' (fun aF=>eG aF))∧aA (Below w0.heap.size w0 w'))
  case atStart=>exact ⟨(a2),(a3),bg,bg,H',⟨Nat.le_refl _⟩,⟨(aG l5)⟩,⟨jh⟩,⟨ay⟩⟩
  case round=>as_aux_lemma =>
   clear H'
   try clear c6;try clear jg;try clear cv
   obtain ⟨b4,bw,rfl,rfl,HA,iq,bQ,HK,HB⟩:=hrel
   cases gk with
   | zero=>exact absurd HA.out (by simp [d_.l0])
   | succ k1 =>
   obtain ⟨H⟩:=HA
   simp only [d_.l0] at H
   revert H;refine gI (fun d6 H=>?_) fun d6 H=>?_
   ·obtain ⟨jl,qF⟩:∃ mQ:Int,(wrap64 ((IntKind.u64.wrap (wrap64 (b4+bw))) / 2))=mQ:=⟨_,rfl⟩
    replace H:(if 0≤(jl) then (if (jl) < (l0.length:Int) then (if 0≤a1 then (if a1 < (l0.length:Int) then ((sQ.f ((au l0 (jl)).f0) ((au l0 (jl)).f1) ((au l0 (jl)).f2) ((au l0 a1).f0) ((au l0 a1).f1) ((au l0 a1).f2)).bind fun fb=>(if fb < 0 then (d_.l0 k1 l0 a1 (wrap64 ((jl)+1)) bw) else (d_.l0 k1 l0 a1 b4 jl))) else (none)) else (none)) else (none)) else (none))=some r:=by first|(rw [qF] at H;exact H)|(simp only [qF] at H ⊢;exact H)
    have JJ:(IntKind.i64.wrap ((IntKind.u64.wrap (wrap64 (b4+bw))) / 2))=jl:=(bI _).trans qF
    obtain ⟨dg,H⟩:=fU H
    obtain ⟨bx,H⟩:=fU H
    obtain ⟨bz,H⟩:=fU H
    obtain ⟨ca,H⟩:=fU H
    obtain ⟨fb,m0,H⟩:=bd_ H
    have i7:=m_ H
    clear H
    try go_wp2
    obtain ⟨bQ,HK,HB⟩:=p_ (Kd.bK bQ.out) <| p_ (Kept.drew HK.out) <| a_ (k_ HB.out)
    obtain ⟨m2,m3,i8⟩:=Kd.dJ bQ.out
    (first|subst i8|(injection i8 with dP fZ dQ;have f_:=dP.symm;have gq:=dQ.symm;clear dP fZ dQ;subst f_;subst gq))
    have ck:0≤((jl):Int):=bC bD
    have cl:(jl) < (l0.length:Int):=bC bD
    obtain ⟨b7,ld,ac,ae,af⟩:=jP (Kd.bZ bQ.out).2.2 (jl) ck cl
    cases ld
    replace ck:=eq_true ck
    replace cl:=eq_true cl
    have cm:0≤(a1:Int):=bC bD
    have cn:a1 < (l0.length:Int):=bC bD
    obtain ⟨i9,lf,ag,aP,ai⟩:=jP (Kd.bZ bQ.out).2.2 a1 cm cn
    obtain rfl:b7=i9:=(by injection lf)
    replace cm:=eq_true cm
    replace cn:=eq_true cn
    refine iH (n:=11) (S:=fun w'=>FZ w' (b7.add (((jl)).toNat * 3)) (.string ((au l0 (jl)).f0)) (.bool ((au l0 (jl)).f1)) (.string ((au l0 (jl)).f2)) <| uw w' (b7.add ((a1).toNat * 3)) (.string ((au l0 a1).f0)) (.bool ((au l0 a1).f1)) (.string ((au l0 a1).f2))) (ds:=[]) EF aB rfl rfl ⟨ac,ae,af,ag,aP,ai⟩ (fun hH=>?_);refine jC (T:=d_.T5) (B:=d_.B5) aB aB (fun aS gJ=>?_)
    generalize wr.drew=mx at bQ HK HB ac ae af ag aP ai hH ⊢
    refine aI 0 ?_
    refine eY 1 41 #[ak,ak,F_,F_,F_,F_,F_,F_,F_,F_,F_] aS ?_
    refine eY 2 42 #[ak,ak,ak,F_,F_,F_,F_,F_,F_,F_,F_] aS ?_
    refine aI 3 ?_
    refine eY 5 45 #[ak,ak,ak,ak,F_,ak,F_,F_,F_,F_,F_] aS ?_
    refine eY 6 46 #[ak,ak,ak,ak,F_,ak,ak,F_,F_,F_,F_] aS ?_
    refine eY 7 47 #[ak,ak,ak,ak,F_,ak,ak,ak,F_,F_,F_] aS ?_
    refine fV 4 hH ?_
    refine fV 8 hH ?_
    refine kY 9 (fun K hK=>?_)
    refine JB func48 aB rfl #[.agg #[.string ((au l0 (jl)).f0),.bool ((au l0 (jl)).f1),.string ((au l0 (jl)).f2)],.agg #[.string ((au l0 a1).f0),.bool ((au l0 a1).f1),.string ((au l0 a1).f2)]] (by rfl) rfl rfl (by rfl) (by (try simp only [List.map_toArray,List.map_cons,List.map_nil]);first|done|(simp only [qF];rfl)|rfl|(simp only [List.length_drop,List.length_take];rfl)) ?_
    with_reducible refine (sQ.calls ((au l0 (jl)).f0) ((au l0 (jl)).f1) ((au l0 (jl)).f2) ((au l0 a1).f0) ((au l0 a1).f1) ((au l0 a1).f2) fb _ m0.out).mono ?_
    rintro e my ⟨rfl,hb⟩
    have BX:=(hb.cell (World.block_lt_of_cell? _ _ (hH.1))).trans (hH.1)
    have BZ:=(hb.cell (World.block_lt_of_cell? _ _ (hH.2.1))).trans (hH.2.1)
    have B_:=(hb.cell (World.block_lt_of_cell? _ _ (hH.2.2.1))).trans (hH.2.2.1)
    have Cb:=(hb.cell (World.block_lt_of_cell? _ _ (hH.2.2.2.1))).trans (hH.2.2.2.1)
    have Cc:=(hb.cell (World.block_lt_of_cell? _ _ (hH.2.2.2.2.1))).trans (hH.2.2.2.2.1)
    have Ce:=(hb.cell (World.block_lt_of_cell? _ _ (hH.2.2.2.2.2))).trans (hH.2.2.2.2.2)
    refine ⟨_,rfl,?_⟩
    obtain ⟨bQ,HK,HB⟩:=p_ (Kd.bn (aG bQ) hb) <| p_ (Kept.below (S:=(fun aF=>eG aF)) jh hb) <| a_ (dI ay hb)
    (try clear hb)
    refine hK.out _ _ ⟨BX,BZ,B_,Cb,Cc,Ce⟩ (fun hH=>?_)
    clear hK K
    refine fD (some 49) ?_
    refine aI 10 ?_
    refine iF (jB aS.out aB) ?_
    go_upto_if 50 with (fail)
    (try clear ac ae af)
    (try clear ag aP ai)
    obtain ⟨H⟩:=i7
    revert H;refine gI (fun b5 H=>?_) fun b5 H=>?_
    rotate_left
    ·try simp only [bI,bY,b5]
     have H':=m_ H
     clear H
     go_wp2
     go_roundg k1
     case measure=>have:=iq.out;omega
     case rel=>exact ⟨(b4),(jl),bg,(by first|rfl|(simp;done)|(simp only [← qF] <;> (first|rfl|simp))|(simp [*];done)),H',⟨nT⟩,⟨(aG bQ)⟩,⟨jh⟩,⟨ay⟩⟩
    try simp only [bI,bY,b5]
    have H':=m_ H
    clear H
    go_wp2
    go_roundg k1
    case measure=>have:=iq.out;omega
    case rel=>exact ⟨(wrap64 ((jl)+1)),(bw),(by first|rfl|(simp;done)|(simp only [← qF] <;> (first|rfl|simp))|(simp [*];done)),bg,H',⟨nT⟩,⟨(aG bQ)⟩,⟨jh⟩,⟨ay⟩⟩
   have H':=m_ H
   clear H
   go_wp2
   go_loopg [13] k1 (fun kq v13 w'=>∃ (a5:List (aC)) (a6:Int),v13=ah a6∧aA (d_.l1 kq a5 b4 a6=some r)∧aA (kq≤k1)∧aA (Kd.R bF 43 w' w0.heap.size (fun aF=>(eG aF∨w.heap.size≤aF)) jk a5)∧aA (Kept w w' (fun aF=>eG aF))∧aA (Below w0.heap.size w0 w'))
   case atStart=>exact ⟨(l0),(a1),bg,H',⟨Nat.le_refl _⟩,⟨(aG bQ)⟩,⟨jh⟩,⟨ay⟩⟩
   case round=>as_aux_lemma =>
    clear H'
    try clear c7;try clear d6
    obtain ⟨a5,a6,rfl,HA,jv,bQ,HK,HB⟩:=hrel
    cases gk with
    | zero=>exact absurd HA.out (by simp [d_.l1])
    | succ k2 =>
    obtain ⟨H⟩:=HA
    simp only [d_.l1] at H
    revert H;refine gI (fun cc H=>?_) fun cc H=>?_
    rotate_left
    ·obtain rfl:=cZ H
     go_wp2
     first|go_end0|((try simp only [Exit.inBlock,Exit.then]);refine bodyPost_ret (results_none rfl _ _ _) rfl ?_)
     exact ⟨b_,(aG bQ),ay,jh⟩
    obtain ⟨jw,JG⟩:∃ mQ:Int,(wrap64 (a6+1))=mQ:=⟨_,rfl⟩
    replace H:(if 0≤(jw) then (if (jw) < (a5.length:Int) then (if 0≤a6 then (if a6 < (a5.length:Int) then (d_.l1 k2 ((a5.set (a6:Int).toNat (⟨(au a5 (jw)).f0,(au a5 (jw)).f1,(au a5 (jw)).f2⟩:aC)).set ((jw):Int).toNat (⟨(au a5 a6).f0,(au a5 a6).f1,(au a5 a6).f2⟩:aC)) b4 jw) else (none)) else (none)) else (none)) else (none))=some r:=by first|(rw [JG] at H;exact H)|(simp only [JG] at H ⊢;exact H)
    have af9:(IntKind.i64.wrap (a6+1))=jw:=(bI _).trans JG
    obtain ⟨co,H⟩:=fU H
    obtain ⟨cp,H⟩:=fU H
    obtain ⟨cq,H⟩:=fU H
    obtain ⟨cr,H⟩:=fU H
    obtain ⟨ep,eq⟩:∃ y_:List (aC),y_=(a5.set (a6:Int).toNat (⟨(au a5 (jw)).f0,(au a5 (jw)).f1,(au a5 (jw)).f2⟩:aC)):=⟨_,rfl⟩
    rw [← eq] at H
    have ia:=m_ eq
    clear eq
    obtain ⟨ib,er⟩:∃ y_:List (aC),y_=(ep.set ((jw):Int).toNat (⟨(au a5 a6).f0,(au a5 a6).f1,(au a5 a6).f2⟩:aC)):=⟨_,rfl⟩
    rw [← er] at H
    have ic:=m_ er
    clear er
    have H':=m_ H
    clear H
    try go_wp2
    obtain ⟨bQ,HK,HB⟩:=p_ (Kd.bK bQ.out) <| p_ (Kept.drew HK.out) <| a_ (k_ HB.out)
    obtain ⟨m4,m5,id⟩:=Kd.dJ bQ.out
    (first|subst id|(injection id with dP fZ dQ;have f_:=dP.symm;have gq:=dQ.symm;clear dP fZ dQ;subst f_;subst gq))
    have cw:0≤((jw):Int):=bC bD
    have cx:(jw) < (a5.length:Int):=bC bD
    obtain ⟨ie,xP,aT,al,am⟩:=jP (Kd.bZ bQ.out).2.2 (jw) cw cx
    cases xP
    replace cw:=eq_true cw
    replace cx:=eq_true cx
    have cy:0≤(a6:Int):=bC bD
    have cz:a6 < (a5.length:Int):=bC bD
    obtain ⟨EZ,lh,an,ao,ap⟩:=jP (Kd.bZ bQ.out).2.2 a6 cy cz
    obtain rfl:ie=EZ:=(by injection lh)
    replace cy:=eq_true cy
    replace cz:=eq_true cz
    have lg:0≤(a6:Int):=bC bD
    have di:(a6:Int) < ((a5.length:Int):Int):=bC bD
    obtain ⟨a9,m6,ii,ij,li,m7,ik⟩:=Kd.zf bQ.out (by omega)
    (first|cases ii|(injection ii with lK vH vG;(first|subst lK|(injection lK with lK;subst lK));subst vG;clear vH))
    have eb:=m_ ij
    have lj:=m_ ik
    clear ij li ik
    have Es:=m_ (show (eG a9∨w.heap.size≤a9) from (bQ.out.1 _ rfl))
    (first|simp only [add_plain] at aT|skip)
    (first|simp only [add_plain] at al|skip)
    (first|simp only [add_plain] at am|skip)
    (first|simp only [add_plain] at an|skip)
    (first|simp only [add_plain] at ao|skip)
    (first|simp only [add_plain] at ap|skip)
    obtain ⟨m8,il,im,dv,lZ⟩:=Kd.oW bQ.out z43 (a6:Int) lg di
    obtain rfl:=o9 im
    have b8:World.cell? _ ⟨a9,(a6:Int).toNat * 3,none⟩=some (.string ((au a5 a6).f0)):=dv 0 _ rfl
    have b9:World.cell? _ ⟨a9,(a6:Int).toNat * 3+1,none⟩=some (.bool ((au a5 a6).f1)):=dv 1 _ rfl
    have ba:World.cell? _ ⟨a9,(a6:Int).toNat * 3+2,none⟩=some (.string ((au a5 a6).f2)):=dv 2 _ rfl
    have g6:World.frozen? _ ⟨a9,(a6:Int).toNat * 3,none⟩=false:=lZ 0
    have g7:World.frozen? _ ⟨a9,(a6:Int).toNat * 3+1,none⟩=false:=lZ 1
    have g8:World.frozen? _ ⟨a9,(a6:Int).toNat * 3+2,none⟩=false:=lZ 2
    clear il dv lZ im
    replace lg:=eq_true lg
    replace di:=eq_true di
    obtain ⟨m9,fk,io,fl,ip⟩:=Kd.oW bQ.out z43 (a6:Int) (bC bD) (by have dV:(a6:Int) < ((a5.length:Int):Int):=bC bD;first|exact dV|(have e_:=(Kd.bZ bQ.out).1;omega)|simpa using dV)
    obtain rfl:=o9 io
    have LP:=(Kd.yu bQ.out (a6:Int) (bC bD) (by have dV:(a6:Int) < ((a5.length:Int):Int):=bC bD;first|exact dV|(have e_:=(Kd.bZ bQ.out).1;omega)|simpa using dV) (seg:=[.string ((au a5 (jw)).f0),.bool ((au a5 (jw)).f1),.string ((au a5 (jw)).f2)]) (j:=0) fk fl (show 3≤3 from by decide) (x':=(⟨(au a5 (jw)).f0,(au a5 (jw)).f1,(au a5 (jw)).f2⟩:aC)) (qX _ _ _ (⟨(au a5 (jw)).f0,(au a5 (jw)).f1,(au a5 (jw)).f2⟩:aC) ) (fun _ hk=>hk)).1
    rw [← ia.out] at LP
    have Jb:=m_ LP
    clear fk fl ip io LP
    have de:0≤((jw):Int):=bC bD
    have df:((jw):Int) < ((a5.length:Int):Int):=bC bD
    obtain ⟨ma,Ae,ir,dx,dy⟩:=Kd.oW Jb.out z43 ((jw):Int) de df
    obtain rfl:=o9 ir
    have bb:World.cell? _ ⟨a9,((jw):Int).toNat * 3,none⟩=some (.string ((au ep (jw)).f0)):=dx 0 _ rfl
    have bc:World.cell? _ ⟨a9,((jw):Int).toNat * 3+1,none⟩=some (.bool ((au ep (jw)).f1)):=dx 1 _ rfl
    have bd:World.cell? _ ⟨a9,((jw):Int).toNat * 3+2,none⟩=some (.string ((au ep (jw)).f2)):=dx 2 _ rfl
    have g9:World.frozen? _ ⟨a9,((jw):Int).toNat * 3,none⟩=false:=dy 0
    have ga:World.frozen? _ ⟨a9,((jw):Int).toNat * 3+1,none⟩=false:=dy 1
    have gc:World.frozen? _ ⟨a9,((jw):Int).toNat * 3+2,none⟩=false:=dy 2
    clear Ae dx dy ir
    replace de:=eq_true de
    replace df:=eq_true df
    obtain ⟨mb,fm,iu,fo,iv⟩:=Kd.oW Jb.out z43 ((jw):Int) (bC bD) (by have dV:((jw):Int) < ((a5.length:Int):Int):=bC bD;first|exact dV|(have e_:=(Kd.bZ bQ.out).1;omega)|simpa using dV)
    obtain rfl:=o9 iu
    have BU:=(Kd.yu Jb.out ((jw):Int) (bC bD) (by have dV:((jw):Int) < ((a5.length:Int):Int):=bC bD;first|exact dV|(have e_:=(Kd.bZ bQ.out).1;omega)|simpa using dV) (seg:=[.string ((au a5 a6).f0),.bool ((au a5 a6).f1),.string ((au a5 a6).f2)]) (j:=0) fm fo (show 3≤3 from by decide) (x':=(⟨(au a5 a6).f0,(au a5 a6).f1,(au a5 a6).f2⟩:aC)) (qX _ _ _ (⟨(au a5 a6).f0,(au a5 a6).f1,(au a5 a6).f2⟩:aC) ) (fun _ hk=>hk)).1
    rw [← ic.out] at BU
    have F9:=m_ BU
    clear fm fo iv iu BU
    refine iH (n:=18) (S:=fun w'=>Ji w' a9 (((jw)).toNat * 3) (.string ((au a5 (jw)).f0)) (.bool ((au a5 (jw)).f1)) (.string ((au a5 (jw)).f2)) <| Jj w' a9 (((a6).toNat * 3)) (.string ((au a5 a6).f0)) (.bool ((au a5 a6).f1)) (.string ((au a5 a6).f2))) (ds:=[15,17]) MZ aB rfl rfl ⟨aT,al,am,an,ao,ap⟩ (fun hH=>?_);refine jC (T:=d_.T11) (B:=d_.B11) aB aB (fun aS gJ=>?_)
    generalize wr.drew=mz at bQ HK HB lj Jb F9 g6 g7 g8 g9 ga gc b8 b9 ba bb bc bd aT al am an ao ap hH ⊢
    refine aI 0 ?_
    refine aI 1 ?_
    refine aI 2 ?_
    refine aI 3 ?_
    refine aI 4 ?_
    refine aI 5 ?_
    refine aI 6 ?_
    refine aI 7 ?_
    refine aI 8 ?_
    refine aI 10 ?_
    refine aI 11 ?_
    refine aI 12 ?_
    refine fV 9 hH ?_
    refine fV 13 hH ?_
    refine aI 14 ?_
    refine wz 15 (fun K hK=>?_)
    refine jr (w1:=?_) (by rfl) rfl ?_ ?_
    rotate_left
    ·go_simp
     rfl
    refine hK.out _ _ ?_
    clear hK K
    refine aI 16 ?_
    refine wz 17 (fun K hK=>?_)
    refine jr (w1:=?_) (by rfl) rfl ?_ ?_
    rotate_left
    ·obtain ⟨Nj,N9,Dc,vK,vM⟩:=Kd.oW bQ.out z43 ((jw):Int) (of_eq_true de) (of_eq_true df)
     obtain rfl:=o9 Dc
     have Ny:World.frozen? _ ⟨a9,((jw):Int).toNat * 3,none⟩=false:=vM 0
     have D5:World.cell? _ ⟨a9,((jw):Int).toNat * 3,none⟩=some _:=vK 0 _ rfl
     obtain ⟨_,Ns⟩:=cell?_setCell_some (p:=⟨a9,(a6:Int).toNat * 3,none⟩) (x:=.string ((au a5 (jw)).f0)) D5
     have Nz:World.frozen? _ ⟨a9,((jw):Int).toNat * 3+1,none⟩=false:=vM 1
     have D6:World.cell? _ ⟨a9,((jw):Int).toNat * 3+1,none⟩=some _:=vK 1 _ rfl
     obtain ⟨_,CY⟩:=cell?_setCell_some (p:=⟨a9,(a6:Int).toNat * 3,none⟩) (x:=.string ((au a5 (jw)).f0)) D6
     obtain ⟨_,Nu⟩:=cell?_setCell_some (p:=⟨a9,(a6:Int).toNat * 3+1,none⟩) (x:=.bool ((au a5 (jw)).f1)) CY
     have NC:World.frozen? _ ⟨a9,((jw):Int).toNat * 3+2,none⟩=false:=vM 2
     have D7:World.cell? _ ⟨a9,((jw):Int).toNat * 3+2,none⟩=some _:=vK 2 _ rfl
     obtain ⟨_,CZ⟩:=cell?_setCell_some (p:=⟨a9,(a6:Int).toNat * 3,none⟩) (x:=.string ((au a5 (jw)).f0)) D7
     obtain ⟨_,C9⟩:=cell?_setCell_some (p:=⟨a9,(a6:Int).toNat * 3+1,none⟩) (x:=.bool ((au a5 (jw)).f1)) CZ
     obtain ⟨_,Nv⟩:=cell?_setCell_some (p:=⟨a9,(a6:Int).toNat * 3+2,none⟩) (x:=.string ((au a5 (jw)).f2)) C9
     go_simp
     rfl
    refine hK.out _ _ ?_
    clear hK K
    refine iF (jB aS.out aB) ?_
    try go_wp2
    go_roundg k2
    case measure=>have:=iq.out;have:=jv.out;omega
    case rel=>exact ⟨(ib),(jw),(by first|rfl|(simp;done)|(simp only [← JG] <;> (first|rfl|simp))|(simp [*];done)),H',⟨IJ⟩,⟨(aG F9)⟩,⟨(by repeat (first|(with_reducible first|exact HK.out|apply Kept.alloc|apply Kept.drewN|apply Kept.drew|refine Kept.setCell ?_ Es.out _|refine Kept.setCell ?_ Es.out _|refine Kept.setCell ?_ Es.out _|refine Kept.setCell ?_ Es.out _|refine Kept.setCell ?_ Es.out _|refine Kept.setCell ?_ Es.out _)|exact HK.out))⟩,⟨(by repeat (first|(with_reducible first|exact HB.out|apply ny|apply qm|apply k_|refine iL ?_ eb.out|refine iL ?_ eb.out|refine iL ?_ eb.out|refine iL ?_ eb.out|refine iL ?_ eb.out|refine iL ?_ eb.out)|exact HB.out))⟩⟩
 have jg:=gU c6
 have cv:=gV c6
 revert H;refine fJ (fun dz H=>?_) fun dz H=>?_
 ·have cd:=gZ dz
  have ce:=g_ dz
  clear dz
  have H':=m_ H
  clear H
  go_enter func133,ntmps133
  go_wp2
  go_loopg [14,15] k (fun kq v14 v15 w'=>∃ (b6:Int) (cf:Int),v14=ah b6∧v15=ah cf∧aA (d_.l2 kq l0 a2 b6 cf=some r)∧aA (kq≤k)∧aA (Kd.R bF 43 w' w0.heap.size (fun aF=>(eG aF∨w.heap.size≤aF)) jk l0)∧aA (Kept w w' (fun aF=>eG aF))∧aA (Below w0.heap.size w0 w'))
  case atStart=>exact ⟨(a1),(a2),bg,bg,H',⟨Nat.le_refl _⟩,⟨(aG l5)⟩,⟨jh⟩,⟨ay⟩⟩
  case round=>as_aux_lemma =>
   clear H'
   try clear c6;try clear jg;try clear cv;try clear dz;try clear cd;try clear ce
   obtain ⟨b6,cf,rfl,rfl,HA,iq,bQ,HK,HB⟩:=hrel
   cases gk with
   | zero=>exact absurd HA.out (by simp [d_.l2])
   | succ k1 =>
   obtain ⟨H⟩:=HA
   simp only [d_.l2] at H
   revert H;refine gI (fun ct H=>?_) fun ct H=>?_
   ·obtain ⟨d0,H⟩:=fU H
    obtain ⟨d1,H⟩:=fU H
    obtain ⟨qH,ER⟩:∃ mQ:Int,(wrap64 ((IntKind.u64.wrap (wrap64 (b6+cf))) / 2))=mQ:=⟨_,rfl⟩
    replace H:(if 0≤(qH) then (if (qH) < (l0.length:Int) then ((sQ.f ((au l0 a2).f0) ((au l0 a2).f1) ((au l0 a2).f2) ((au l0 (qH)).f0) ((au l0 (qH)).f1) ((au l0 (qH)).f2)).bind fun fg=>(if fg < 0 then (d_.l2 k1 l0 a2 b6 qH) else (d_.l2 k1 l0 a2 (wrap64 ((qH)+1)) cf))) else (none)) else (none))=some r:=by first|(rw [ER] at H;exact H)|(simp only [ER] at H ⊢;exact H)
    have aga:(IntKind.i64.wrap ((IntKind.u64.wrap (wrap64 (b6+cf))) / 2))=qH:=(bI _).trans ER
    obtain ⟨d2,H⟩:=fU H
    obtain ⟨d3,H⟩:=fU H
    obtain ⟨fg,mc,H⟩:=bd_ H
    have Af:=m_ H
    clear H
    try go_wp2
    obtain ⟨bQ,HK,HB⟩:=p_ (Kd.bK bQ.out) <| p_ (Kept.drew HK.out) <| a_ (k_ HB.out)
    obtain ⟨me,mf,ix⟩:=Kd.dJ bQ.out
    (first|subst ix|(injection ix with dP fZ dQ;have f_:=dP.symm;have gq:=dQ.symm;clear dP fZ dQ;subst f_;subst gq))
    have d7:0≤(a2:Int):=bC bD
    have d8:a2 < (l0.length:Int):=bC bD
    obtain ⟨be,lk,aq,ar,bP⟩:=jP (Kd.bZ bQ.out).2.2 a2 d7 d8
    cases lk
    replace d7:=eq_true d7
    replace d8:=eq_true d8
    have d9:0≤((qH):Int):=bC bD
    have da:(qH) < (l0.length:Int):=bC bD
    obtain ⟨Bg,ll,av,aw,ax⟩:=jP (Kd.bZ bQ.out).2.2 (qH) d9 da
    obtain rfl:be=Bg:=(by injection ll)
    replace d9:=eq_true d9
    replace da:=eq_true da
    refine iH (n:=12) (S:=fun w'=>FZ w' (be.add ((a2).toNat * 3)) (.string ((au l0 a2).f0)) (.bool ((au l0 a2).f1)) (.string ((au l0 a2).f2)) <| uw w' (be.add (((qH)).toNat * 3)) (.string ((au l0 (qH)).f0)) (.bool ((au l0 (qH)).f1)) (.string ((au l0 (qH)).f2))) (ds:=[]) #[F_,F_,F_,F_,F_,F_,F_,F_,F_,F_,F_,F_] aB rfl rfl ⟨aq,ar,bP,av,aw,ax⟩ (fun hH=>?_);refine jC (T:=d_.Yu) (B:=d_.XI) aB aB (fun aS gJ=>?_)
    generalize wr.drew=n0 at bQ HK HB aq ar bP av aw ax hH ⊢
    refine eY 0 92 #[ak,F_,F_,F_,F_,F_,F_,F_,F_,F_,F_,F_] aS ?_
    refine eY 1 93 #[ak,ak,F_,F_,F_,F_,F_,F_,F_,F_,F_,F_] aS ?_
    refine eY 2 94 #[ak,ak,ak,F_,F_,F_,F_,F_,F_,F_,F_,F_] aS ?_
    refine eY 3 95 #[ak,ak,ak,ak,F_,F_,F_,F_,F_,F_,F_,F_] aS ?_
    refine eY 5 97 #[ak,ak,ak,ak,F_,ak,F_,F_,F_,F_,F_,F_] aS ?_
    refine eY 6 98 #[ak,ak,ak,ak,F_,ak,ak,F_,F_,F_,F_,F_] aS ?_
    refine eY 7 99 #[ak,ak,ak,ak,F_,ak,ak,ak,F_,F_,F_,F_] aS ?_
    refine pJ 4 96 #[ak,ak,ak,ak,ak,ak,ak,ak,F_,F_,F_,F_] aS gJ hH ?_
    refine pJ 8 100 #[ak,ak,ak,ak,ak,ak,ak,ak,ak,F_,F_,F_] aS gJ hH ?_
    refine gB (i:=9) (N:=some 101) #[ak,ak,ak,ak,ak,ak,ak,ak,ak,ak,F_,F_] rfl rfl (jW aS.out aB) (by decide) (fun K hK=>?_)
    refine JB func48 aB rfl #[.agg #[.string ((au l0 a2).f0),.bool ((au l0 a2).f1),.string ((au l0 a2).f2)],.agg #[.string ((au l0 (qH)).f0),.bool ((au l0 (qH)).f1),.string ((au l0 (qH)).f2)]] (by rfl) rfl rfl (by rfl) (by (try simp only [List.map_toArray,List.map_cons,List.map_nil]);first|done|(simp only [ER];rfl)|rfl|(simp only [List.length_drop,List.length_take];rfl)) ?_
    with_reducible refine (sQ.calls ((au l0 a2).f0) ((au l0 a2).f1) ((au l0 a2).f2) ((au l0 (qH)).f0) ((au l0 (qH)).f1) ((au l0 (qH)).f2) fg _ mc.out).mono ?_
    rintro e n1 ⟨rfl,hb⟩
    have BX:=(hb.cell (World.block_lt_of_cell? _ _ (hH.1))).trans (hH.1)
    have BZ:=(hb.cell (World.block_lt_of_cell? _ _ (hH.2.1))).trans (hH.2.1)
    have B_:=(hb.cell (World.block_lt_of_cell? _ _ (hH.2.2.1))).trans (hH.2.2.1)
    have Cb:=(hb.cell (World.block_lt_of_cell? _ _ (hH.2.2.2.1))).trans (hH.2.2.2.1)
    have Cc:=(hb.cell (World.block_lt_of_cell? _ _ (hH.2.2.2.2.1))).trans (hH.2.2.2.2.1)
    have Ce:=(hb.cell (World.block_lt_of_cell? _ _ (hH.2.2.2.2.2))).trans (hH.2.2.2.2.2)
    refine ⟨_,rfl,?_⟩
    obtain ⟨bQ,HK,HB⟩:=p_ (Kd.bn (aG bQ) hb) <| p_ (Kept.below (S:=(fun aF=>eG aF)) jh hb) <| a_ (dI ay hb)
    (try clear hb)
    refine hK.out _ _ ⟨BX,BZ,B_,Cb,Cc,Ce⟩ (fun hH=>?_)
    clear hK K
    refine fD (some 101) ?_
    refine eY 10 102 #[ak,ak,ak,ak,ak,ak,ak,ak,ak,ak,ak,F_] aS ?_
    refine eY 11 103 #[ak,ak,ak,ak,ak,ak,ak,ak,ak,ak,ak,ak] aS ?_
    refine iF (jB aS.out aB) ?_
    go_upto_if 103 with (fail)
    (try clear aq ar bP)
    (try clear av aw ax)
    obtain ⟨H⟩:=Af
    revert H;refine gI (fun fF H=>?_) fun fF H=>?_
    ·try simp only [bI,bY,fF]
     have H':=m_ H
     clear H
     go_wp2
     go_roundg k1
     case measure=>have:=iq.out;omega
     case rel=>exact ⟨(b6),(qH),bg,(by first|rfl|(simp;done)|(simp only [← ER] <;> (first|rfl|simp))|(simp [*];done)),H',⟨nT⟩,⟨(aG bQ)⟩,⟨jh⟩,⟨ay⟩⟩
    try simp only [bI,bY,fF]
    have H':=m_ H
    clear H
    go_wp2
    go_roundg k1
    case measure=>have:=iq.out;omega
    case rel=>exact ⟨(wrap64 ((qH)+1)),(cf),(by first|rfl|(simp;done)|(simp only [← ER] <;> (first|rfl|simp))|(simp [*];done)),bg,H',⟨nT⟩,⟨(aG bQ)⟩,⟨jh⟩,⟨ay⟩⟩
   have H':=m_ H
   clear H
   go_wp2
   go_loopg [17] k1 (fun kq v17 w'=>∃ (a5:List (aC)) (a7:Int),v17=ah a7∧aA (d_.l3 kq a5 b6 a7=some r)∧aA (kq≤k1)∧aA (Kd.R bF 43 w' w0.heap.size (fun aF=>(eG aF∨w.heap.size≤aF)) jk a5)∧aA (Kept w w' (fun aF=>eG aF))∧aA (Below w0.heap.size w0 w'))
   case atStart=>exact ⟨(l0),(a2),bg,H',⟨Nat.le_refl _⟩,⟨(aG bQ)⟩,⟨jh⟩,⟨ay⟩⟩
   case round=>as_aux_lemma =>
    clear H'
    try clear en;try clear ct
    obtain ⟨a5,a7,rfl,HA,jv,bQ,HK,HB⟩:=hrel
    cases gk with
    | zero=>exact absurd HA.out (by simp [d_.l3])
    | succ k2 =>
    obtain ⟨H⟩:=HA
    simp only [d_.l3] at H
    revert H;refine gI (fun d4 H=>?_) fun d4 H=>?_
    rotate_left
    ·obtain rfl:=cZ H
     go_wp2
     first|go_end0|((try simp only [Exit.inBlock,Exit.then]);refine bodyPost_ret (results_none rfl _ _ _) rfl ?_)
     exact ⟨b_,(aG bQ),ay,jh⟩
    obtain ⟨jy,JH⟩:∃ mQ:Int,(wrap64 (a7 - 1))=mQ:=⟨_,rfl⟩
    replace H:(if 0≤(jy) then (if (jy) < (a5.length:Int) then (if 0≤a7 then (if a7 < (a5.length:Int) then (d_.l3 k2 ((a5.set (a7:Int).toNat (⟨(au a5 (jy)).f0,(au a5 (jy)).f1,(au a5 (jy)).f2⟩:aC)).set ((jy):Int).toNat (⟨(au a5 a7).f0,(au a5 a7).f1,(au a5 a7).f2⟩:aC)) b6 jy) else (none)) else (none)) else (none)) else (none))=some r:=by first|(rw [JH] at H;exact H)|(simp only [JH] at H ⊢;exact H)
    have agc:(IntKind.i64.wrap (a7 - 1))=jy:=(bI _).trans JH
    obtain ⟨dj,H⟩:=fU H
    obtain ⟨dk,H⟩:=fU H
    obtain ⟨dl,H⟩:=fU H
    obtain ⟨dm,H⟩:=fU H
    obtain ⟨et,rV⟩:∃ y_:List (aC),y_=(a5.set (a7:Int).toNat (⟨(au a5 (jy)).f0,(au a5 (jy)).f1,(au a5 (jy)).f2⟩:aC)):=⟨_,rfl⟩
    rw [← rV] at H
    have iz:=m_ rV
    clear rV
    obtain ⟨j5,ev⟩:∃ y_:List (aC),y_=(et.set ((jy):Int).toNat (⟨(au a5 a7).f0,(au a5 a7).f1,(au a5 a7).f2⟩:aC)):=⟨_,rfl⟩
    rw [← ev] at H
    have j9:=m_ ev
    clear ev
    have H':=m_ H
    clear H
    try go_wp2
    obtain ⟨bQ,HK,HB⟩:=p_ (Kd.bK bQ.out) <| p_ (Kept.drew HK.out) <| a_ (k_ HB.out)
    obtain ⟨U1,mh,ja⟩:=Kd.dJ bQ.out
    (first|subst ja|(injection ja with dP fZ dQ;have f_:=dP.symm;have gq:=dQ.symm;clear dP fZ dQ;subst f_;subst gq))
    have kM:0≤((jy):Int):=bC bD
    have dp:(jy) < (a5.length:Int):=bC bD
    obtain ⟨jb,lm,dw,az,b0⟩:=jP (Kd.bZ bQ.out).2.2 (jy) kM dp
    cases lm
    replace kM:=eq_true kM
    replace dp:=eq_true dp
    have dq:0≤(a7:Int):=bC bD
    have dr:a7 < (a5.length:Int):=bC bD
    obtain ⟨E8,ln,b1,b2,b3⟩:=jP (Kd.bZ bQ.out).2.2 a7 dq dr
    obtain rfl:jb=E8:=(by injection ln)
    replace dq:=eq_true dq
    replace dr:=eq_true dr
    have ec:0≤(a7:Int):=bC bD
    have ed:(a7:Int) < ((a5.length:Int):Int):=bC bD
    obtain ⟨aa,mi,Bh,Bj,lo,mj,Ag⟩:=Kd.zf bQ.out (by omega)
    (first|cases Bh|(injection Bh with lK vH vG;(first|subst lK|(injection lK with lK;subst lK));subst vG;clear vH))
    have ee:=m_ Bj
    have lp:=m_ Ag
    clear Bj lo Ag
    have Et:=m_ (show (eG aa∨w.heap.size≤aa) from (bQ.out.1 _ rfl))
    (first|simp only [add_plain] at dw|skip)
    (first|simp only [add_plain] at az|skip)
    (first|simp only [add_plain] at b0|skip)
    (first|simp only [add_plain] at b1|skip)
    (first|simp only [add_plain] at b2|skip)
    (first|simp only [add_plain] at b3|skip)
    obtain ⟨ml,Dw,Dx,e0,e3⟩:=Kd.oW bQ.out z43 (a7:Int) ec ed
    obtain rfl:=o9 Dx
    have bp:World.cell? _ ⟨aa,(a7:Int).toNat * 3,none⟩=some (.string ((au a5 a7).f0)):=e0 0 _ rfl
    have bq:World.cell? _ ⟨aa,(a7:Int).toNat * 3+1,none⟩=some (.bool ((au a5 a7).f1)):=e0 1 _ rfl
    have br:World.cell? _ ⟨aa,(a7:Int).toNat * 3+2,none⟩=some (.string ((au a5 a7).f2)):=e0 2 _ rfl
    have gj:World.frozen? _ ⟨aa,(a7:Int).toNat * 3,none⟩=false:=e3 0
    have gl:World.frozen? _ ⟨aa,(a7:Int).toNat * 3+1,none⟩=false:=e3 1
    have gm:World.frozen? _ ⟨aa,(a7:Int).toNat * 3+2,none⟩=false:=e3 2
    clear Dw e0 e3 Dx
    replace ec:=eq_true ec
    replace ed:=eq_true ed
    obtain ⟨mm,fu,Dy,fw,jj⟩:=Kd.oW bQ.out z43 (a7:Int) (bC bD) (by have dV:(a7:Int) < ((a5.length:Int):Int):=bC bD;first|exact dV|(have e_:=(Kd.bZ bQ.out).1;omega)|simpa using dV)
    obtain rfl:=o9 Dy
    have LV:=(Kd.yu bQ.out (a7:Int) (bC bD) (by have dV:(a7:Int) < ((a5.length:Int):Int):=bC bD;first|exact dV|(have e_:=(Kd.bZ bQ.out).1;omega)|simpa using dV) (seg:=[.string ((au a5 (jy)).f0),.bool ((au a5 (jy)).f1),.string ((au a5 (jy)).f2)]) (j:=0) fu fw (show 3≤3 from by decide) (x':=(⟨(au a5 (jy)).f0,(au a5 (jy)).f1,(au a5 (jy)).f2⟩:aC)) (qX _ _ _ (⟨(au a5 (jy)).f0,(au a5 (jy)).f1,(au a5 (jy)).f2⟩:aC) ) (fun _ hk=>hk)).1
    rw [← iz.out] at LV
    have Jc:=m_ LV
    clear fu fw jj Dy LV
    have e4:0≤((jy):Int):=bC bD
    have e5:((jy):Int) < ((a5.length:Int):Int):=bC bD
    obtain ⟨mn,Dz,DC,e6,e7⟩:=Kd.oW Jc.out z43 ((jy):Int) e4 e5
    obtain rfl:=o9 DC
    have bs:World.cell? _ ⟨aa,((jy):Int).toNat * 3,none⟩=some (.string ((au et (jy)).f0)):=e6 0 _ rfl
    have bu:World.cell? _ ⟨aa,((jy):Int).toNat * 3+1,none⟩=some (.bool ((au et (jy)).f1)):=e6 1 _ rfl
    have bv:World.cell? _ ⟨aa,((jy):Int).toNat * 3+2,none⟩=some (.string ((au et (jy)).f2)):=e6 2 _ rfl
    have gn:World.frozen? _ ⟨aa,((jy):Int).toNat * 3,none⟩=false:=e7 0
    have go:World.frozen? _ ⟨aa,((jy):Int).toNat * 3+1,none⟩=false:=e7 1
    have gp:World.frozen? _ ⟨aa,((jy):Int).toNat * 3+2,none⟩=false:=e7 2
    clear Dz e6 e7 DC
    replace e4:=eq_true e4
    replace e5:=eq_true e5
    obtain ⟨mo,fx,DF,fy,jn⟩:=Kd.oW Jc.out z43 ((jy):Int) (bC bD) (by have dV:((jy):Int) < ((a5.length:Int):Int):=bC bD;first|exact dV|(have e_:=(Kd.bZ bQ.out).1;omega)|simpa using dV)
    obtain rfl:=o9 DF
    have LW:=(Kd.yu Jc.out ((jy):Int) (bC bD) (by have dV:((jy):Int) < ((a5.length:Int):Int):=bC bD;first|exact dV|(have e_:=(Kd.bZ bQ.out).1;omega)|simpa using dV) (seg:=[.string ((au a5 a7).f0),.bool ((au a5 a7).f1),.string ((au a5 a7).f2)]) (j:=0) fx fy (show 3≤3 from by decide) (x':=(⟨(au a5 a7).f0,(au a5 a7).f1,(au a5 a7).f2⟩:aC)) (qX _ _ _ (⟨(au a5 a7).f0,(au a5 a7).f1,(au a5 a7).f2⟩:aC) ) (fun _ hk=>hk)).1
    rw [← j9.out] at LW
    have QB:=m_ LW
    clear fx fy jn DF LW
    refine iH (n:=18) (S:=fun w'=>Ji w' aa (((jy)).toNat * 3) (.string ((au a5 (jy)).f0)) (.bool ((au a5 (jy)).f1)) (.string ((au a5 (jy)).f2)) <| Jj w' aa (((a7).toNat * 3)) (.string ((au a5 a7).f0)) (.bool ((au a5 a7).f1)) (.string ((au a5 a7).f2))) (ds:=[15,17]) MZ aB rfl rfl ⟨dw,az,b0,b1,b2,b3⟩ (fun hH=>?_);refine jC (T:=d_.Yw) (B:=d_.XK) aB aB (fun aS gJ=>?_)
    generalize wr.drew=n2 at bQ HK HB lp Jc QB gj gl gm gn go gp bp bq br bs bu bv dw az b0 b1 b2 b3 hH ⊢
    refine aI 0 ?_
    refine aI 1 ?_
    refine aI 2 ?_
    refine aI 3 ?_
    refine aI 4 ?_
    refine aI 5 ?_
    refine aI 6 ?_
    refine aI 7 ?_
    refine aI 8 ?_
    refine aI 10 ?_
    refine aI 11 ?_
    refine aI 12 ?_
    refine fV 9 hH ?_
    refine fV 13 hH ?_
    refine aI 14 ?_
    refine wz 15 (fun K hK=>?_)
    refine jr (w1:=?_) (by rfl) rfl ?_ ?_
    rotate_left
    ·go_simp
     rfl
    refine hK.out _ _ ?_
    clear hK K
    refine aI 16 ?_
    refine wz 17 (fun K hK=>?_)
    refine jr (w1:=?_) (by rfl) rfl ?_ ?_
    rotate_left
    ·obtain ⟨Nj,N9,Dc,vK,vM⟩:=Kd.oW bQ.out z43 ((jy):Int) (of_eq_true e4) (of_eq_true e5)
     obtain rfl:=o9 Dc
     have Ny:World.frozen? _ ⟨aa,((jy):Int).toNat * 3,none⟩=false:=vM 0
     have D5:World.cell? _ ⟨aa,((jy):Int).toNat * 3,none⟩=some _:=vK 0 _ rfl
     obtain ⟨_,Ns⟩:=cell?_setCell_some (p:=⟨aa,(a7:Int).toNat * 3,none⟩) (x:=.string ((au a5 (jy)).f0)) D5
     have Nz:World.frozen? _ ⟨aa,((jy):Int).toNat * 3+1,none⟩=false:=vM 1
     have D6:World.cell? _ ⟨aa,((jy):Int).toNat * 3+1,none⟩=some _:=vK 1 _ rfl
     obtain ⟨_,CY⟩:=cell?_setCell_some (p:=⟨aa,(a7:Int).toNat * 3,none⟩) (x:=.string ((au a5 (jy)).f0)) D6
     obtain ⟨_,Nu⟩:=cell?_setCell_some (p:=⟨aa,(a7:Int).toNat * 3+1,none⟩) (x:=.bool ((au a5 (jy)).f1)) CY
     have NC:World.frozen? _ ⟨aa,((jy):Int).toNat * 3+2,none⟩=false:=vM 2
     have D7:World.cell? _ ⟨aa,((jy):Int).toNat * 3+2,none⟩=some _:=vK 2 _ rfl
     obtain ⟨_,CZ⟩:=cell?_setCell_some (p:=⟨aa,(a7:Int).toNat * 3,none⟩) (x:=.string ((au a5 (jy)).f0)) D7
     obtain ⟨_,C9⟩:=cell?_setCell_some (p:=⟨aa,(a7:Int).toNat * 3+1,none⟩) (x:=.bool ((au a5 (jy)).f1)) CZ
     obtain ⟨_,Nv⟩:=cell?_setCell_some (p:=⟨aa,(a7:Int).toNat * 3+2,none⟩) (x:=.string ((au a5 (jy)).f2)) C9
     go_simp
     rfl
    refine hK.out _ _ ?_
    clear hK K
    refine iF (jB aS.out aB) ?_
    try go_wp2
    go_roundg k2
    case measure=>have:=iq.out;have:=jv.out;omega
    case rel=>exact ⟨(j5),(jy),(by first|rfl|(simp;done)|(simp only [← JH] <;> (first|rfl|simp))|(simp [*];done)),H',⟨IJ⟩,⟨(aG QB)⟩,⟨(by repeat (first|(with_reducible first|exact HK.out|apply Kept.alloc|apply Kept.drewN|apply Kept.drew|refine Kept.setCell ?_ Et.out _|refine Kept.setCell ?_ Et.out _|refine Kept.setCell ?_ Et.out _|refine Kept.setCell ?_ Et.out _|refine Kept.setCell ?_ Et.out _|refine Kept.setCell ?_ Et.out _)|exact HK.out))⟩,⟨(by repeat (first|(with_reducible first|exact HB.out|apply ny|apply qm|apply k_|refine iL ?_ ee.out|refine iL ?_ ee.out|refine iL ?_ ee.out|refine iL ?_ ee.out|refine iL ?_ ee.out|refine iL ?_ ee.out)|exact HB.out))⟩⟩
 have cd:=gU dz
 have ce:=gV dz
 have yM:=m_ H
 clear H
 go_enter func133,ntmps133
 go_upto_if 140 with (fail)
 go_cut [20,21] (fun v20 v21 wc=>∃ (kq:Nat) (db:Int) (dd:Int),v20=ah db∧v21=ah dd∧aA (d_.j4 kq l0 a1 a2 a3 a4 (wrap64 ((IntKind.u64.wrap (wrap64 (a1+a3))) / 2)) (wrap64 ((wrap64 ((IntKind.u64.wrap (wrap64 (a1+a3))) / 2))+a2)) db dd=some r)∧aA (kq≤k)∧aA (Kd.R bF 43 wc w0.heap.size (fun aF=>(eG aF∨w.heap.size≤aF)) jk l0)∧aA (Kept w wc (fun aF=>eG aF))∧aA (Below w0.heap.size w0 wc))
 case first =>
  obtain ⟨H⟩:=yM
  revert H;refine gI (fun bo H=>?_) fun bo H=>?_
  rotate_left
  ·try simp only [bI,bY,bo]
   have H':=m_ H
   clear H
   go_wp2
   go_meet
   case rel=>exact ⟨_,(a1),(a2),bg,bg,H',⟨kH⟩,⟨(aG l5)⟩,⟨jh⟩,⟨ay⟩⟩
  try simp only [bI,bY,bo]
  have H':=m_ H
  clear H
  go_wp2
  go_meet
  case rel=>exact ⟨_,(wrap64 ((wrap64 ((wrap64 ((IntKind.u64.wrap (wrap64 (a1+a3))) / 2))+a2)) - a3)),(wrap64 ((IntKind.u64.wrap (wrap64 (a1+a3))) / 2)),bg,bg,H',⟨kH⟩,⟨(aG l5)⟩,⟨jh⟩,⟨ay⟩⟩
 case rest =>
 clear yM
 try clear c6;try clear jg;try clear cv;try clear dz;try clear cd;try clear ce
 obtain ⟨kq,db,dd,rfl,rfl,HA,xF,bQ,HK,HB⟩:=hcut
 cases kq with
 | zero=>exact absurd HA.out (by simp [d_.j4])
 | succ J3 =>
 obtain ⟨H⟩:=HA
 simp only [d_.j4] at H
 have H':=m_ H
 clear H
 go_wp2
 go_loopg [20,21] J3 (fun kq v20 v21 w'=>∃ (a8:Int) (aN:Int),v20=ah a8∧v21=ah aN∧aA (d_.l4 kq l0 a1 a2 a3 a4 (wrap64 ((IntKind.u64.wrap (wrap64 (a1+a3))) / 2)) (wrap64 ((wrap64 ((IntKind.u64.wrap (wrap64 (a1+a3))) / 2))+a2)) a8 aN (wrap64 ((wrap64 ((wrap64 ((IntKind.u64.wrap (wrap64 (a1+a3))) / 2))+a2)) - 1))=some r)∧aA (kq≤J3)∧aA (Kd.R bF 43 w' w0.heap.size (fun aF=>(eG aF∨w.heap.size≤aF)) jk l0)∧aA (Kept w w' (fun aF=>eG aF))∧aA (Below w0.heap.size w0 w'))
 case atStart=>exact ⟨(db),(dd),bg,bg,H',⟨Nat.le_refl _⟩,⟨(aG bQ)⟩,⟨jh⟩,⟨ay⟩⟩
 case round=>as_aux_lemma =>
  clear H'
  obtain ⟨a8,aN,rfl,rfl,HA,jv,bQ,HK,HB⟩:=hrel
  cases gk with
  | zero=>exact absurd HA.out (by simp [d_.l4])
  | succ k2 =>
  obtain ⟨H⟩:=HA
  simp only [d_.l4] at H
  revert H;refine gI (fun e8 H=>?_) fun e8 H=>?_
  ·obtain ⟨mG,zi⟩:∃ mQ:Int,(wrap64 ((wrap64 ((wrap64 ((wrap64 ((IntKind.u64.wrap (wrap64 (a1+a3))) / 2))+a2)) - 1)) - (wrap64 ((IntKind.u64.wrap (wrap64 (a8+aN))) / 2))))=mQ:=⟨_,rfl⟩
   replace H:(if 0≤(mG) then (if (mG) < (l0.length:Int) then (if 0≤(wrap64 ((IntKind.u64.wrap (wrap64 (a8+aN))) / 2)) then (if (wrap64 ((IntKind.u64.wrap (wrap64 (a8+aN))) / 2)) < (l0.length:Int) then ((sQ.f ((au l0 (mG)).f0) ((au l0 (mG)).f1) ((au l0 (mG)).f2) ((au l0 (wrap64 ((IntKind.u64.wrap (wrap64 (a8+aN))) / 2))).f0) ((au l0 (wrap64 ((IntKind.u64.wrap (wrap64 (a8+aN))) / 2))).f1) ((au l0 (wrap64 ((IntKind.u64.wrap (wrap64 (a8+aN))) / 2))).f2)).bind fun ef=>(if ef < 0 then (d_.l4 k2 l0 a1 a2 a3 a4 (wrap64 ((IntKind.u64.wrap (wrap64 (a1+a3))) / 2)) (wrap64 ((wrap64 ((IntKind.u64.wrap (wrap64 (a1+a3))) / 2))+a2)) a8 (wrap64 ((IntKind.u64.wrap (wrap64 (a8+aN))) / 2)) (wrap64 ((wrap64 ((wrap64 ((IntKind.u64.wrap (wrap64 (a1+a3))) / 2))+a2)) - 1))) else (d_.l4 k2 l0 a1 a2 a3 a4 (wrap64 ((IntKind.u64.wrap (wrap64 (a1+a3))) / 2)) (wrap64 ((wrap64 ((IntKind.u64.wrap (wrap64 (a1+a3))) / 2))+a2)) (wrap64 ((wrap64 ((IntKind.u64.wrap (wrap64 (a8+aN))) / 2))+1)) aN (wrap64 ((wrap64 ((wrap64 ((IntKind.u64.wrap (wrap64 (a1+a3))) / 2))+a2)) - 1))))) else (none)) else (none)) else (none)) else (none))=some r:=by first|(rw [zi] at H;exact H)|(simp only [zi] at H ⊢;exact H)
   have aae:(IntKind.i64.wrap ((wrap64 ((wrap64 ((wrap64 ((IntKind.u64.wrap (wrap64 (a1+a3))) / 2))+a2)) - 1)) - (wrap64 ((IntKind.u64.wrap (wrap64 (a8+aN))) / 2))))=mG:=(bI _).trans zi
   obtain ⟨ex,H⟩:=fU H
   obtain ⟨ey,H⟩:=fU H
   obtain ⟨pV,Dh⟩:∃ mQ:Int,(wrap64 ((IntKind.u64.wrap (wrap64 (a8+aN))) / 2))=mQ:=⟨_,rfl⟩
   replace H:(if 0≤(pV) then (if (pV) < (l0.length:Int) then ((sQ.f ((au l0 (mG)).f0) ((au l0 (mG)).f1) ((au l0 (mG)).f2) ((au l0 (pV)).f0) ((au l0 (pV)).f1) ((au l0 (pV)).f2)).bind fun ef=>(if ef < 0 then (d_.l4 k2 l0 a1 a2 a3 a4 (wrap64 ((IntKind.u64.wrap (wrap64 (a1+a3))) / 2)) (wrap64 ((wrap64 ((IntKind.u64.wrap (wrap64 (a1+a3))) / 2))+a2)) a8 pV (wrap64 ((wrap64 ((wrap64 ((IntKind.u64.wrap (wrap64 (a1+a3))) / 2))+a2)) - 1))) else (d_.l4 k2 l0 a1 a2 a3 a4 (wrap64 ((IntKind.u64.wrap (wrap64 (a1+a3))) / 2)) (wrap64 ((wrap64 ((IntKind.u64.wrap (wrap64 (a1+a3))) / 2))+a2)) (wrap64 ((pV)+1)) aN (wrap64 ((wrap64 ((wrap64 ((IntKind.u64.wrap (wrap64 (a1+a3))) / 2))+a2)) - 1))))) else (none)) else (none))=some r:=by first|(rw [Dh] at H;exact H)|(simp only [Dh] at H ⊢;exact H)
   have agh:(IntKind.i64.wrap ((IntKind.u64.wrap (wrap64 (a8+aN))) / 2))=pV:=(bI _).trans Dh
   have aad:(wrap64 ((wrap64 ((wrap64 ((wrap64 ((IntKind.u64.wrap (wrap64 (a1+a3))) / 2))+a2)) - 1)) - pV))=mG:=by rw [← Dh];exact zi
   have agf:(IntKind.i64.wrap ((wrap64 ((wrap64 ((wrap64 ((IntKind.u64.wrap (wrap64 (a1+a3))) / 2))+a2)) - 1)) - pV))=mG:=(bI _).trans aad
   obtain ⟨ez,H⟩:=fU H
   obtain ⟨f4,H⟩:=fU H
   obtain ⟨ef,mq,H⟩:=bd_ H
   have js:=m_ H
   clear H
   try go_wp2
   obtain ⟨bQ,HK,HB⟩:=p_ (Kd.bK bQ.out) <| p_ (Kept.drew HK.out) <| a_ (k_ HB.out)
   obtain ⟨mr,ms,jt⟩:=Kd.dJ bQ.out
   (first|subst jt|(injection jt with dP fZ dQ;have f_:=dP.symm;have gq:=dQ.symm;clear dP fZ dQ;subst f_;subst gq))
   have eh:0≤((mG):Int):=bC bD
   have ei:(mG) < (l0.length:Int):=bC bD
   obtain ⟨dM,Fb,bh,bi,bj⟩:=jP (Kd.bZ bQ.out).2.2 (mG) eh ei
   cases Fb
   replace eh:=eq_true eh
   replace ei:=eq_true ei
   have ej:0≤((pV):Int):=bC bD
   have ek:(pV) < (l0.length:Int):=bC bD
   obtain ⟨ju,lr,bl,bm,fK⟩:=jP (Kd.bZ bQ.out).2.2 (pV) ej ek
   obtain rfl:dM=ju:=(by injection lr)
   replace ej:=eq_true ej
   replace ek:=eq_true ek
   refine iH (n:=14) (S:=fun w'=>FZ w' (dM.add (((mG)).toNat * 3)) (.string ((au l0 (mG)).f0)) (.bool ((au l0 (mG)).f1)) (.string ((au l0 (mG)).f2)) <| uw w' (dM.add (((pV)).toNat * 3)) (.string ((au l0 (pV)).f0)) (.bool ((au l0 (pV)).f1)) (.string ((au l0 (pV)).f2))) (ds:=[]) Si aB rfl rfl ⟨bh,bi,bj,bl,bm,fK⟩ (fun hH=>?_);refine jC (T:=d_.MB) (B:=d_.Le) aB aB (fun aS gJ=>?_)
   generalize wr.drew=n3 at bQ HK HB bh bi bj bl bm fK hH ⊢
   refine eY 0 158 #[ak,F_,F_,F_,F_,F_,F_,F_,F_,F_,F_,F_,F_,F_] aS ?_
   refine eY 1 159 #[ak,ak,F_,F_,F_,F_,F_,F_,F_,F_,F_,F_,F_,F_] aS ?_
   refine eY 2 160 #[ak,ak,ak,F_,F_,F_,F_,F_,F_,F_,F_,F_,F_,F_] aS ?_
   refine eY 3 161 #[ak,ak,ak,ak,F_,F_,F_,F_,F_,F_,F_,F_,F_,F_] aS ?_
   refine aI 4 ?_
   refine aI 5 ?_
   refine eY 7 165 #[ak,ak,ak,ak,ak,ak,F_,ak,F_,F_,F_,F_,F_,F_] aS ?_
   refine eY 8 166 #[ak,ak,ak,ak,ak,ak,F_,ak,ak,F_,F_,F_,F_,F_] aS ?_
   refine eY 9 167 #[ak,ak,ak,ak,ak,ak,F_,ak,ak,ak,F_,F_,F_,F_] aS ?_
   refine fV 6 hH ?_
   refine fV 10 hH ?_
   refine kY 11 (fun K hK=>?_)
   refine JB func48 aB rfl #[.agg #[.string ((au l0 (mG)).f0),.bool ((au l0 (mG)).f1),.string ((au l0 (mG)).f2)],.agg #[.string ((au l0 (pV)).f0),.bool ((au l0 (pV)).f1),.string ((au l0 (pV)).f2)]] (by rfl) rfl rfl (by rfl) (by (try simp only [List.map_toArray,List.map_cons,List.map_nil]);first|done|(simp only [zi,Dh];rfl)|rfl|(simp only [List.length_drop,List.length_take];rfl)) ?_
   with_reducible refine (sQ.calls ((au l0 (mG)).f0) ((au l0 (mG)).f1) ((au l0 (mG)).f2) ((au l0 (pV)).f0) ((au l0 (pV)).f1) ((au l0 (pV)).f2) ef _ mq.out).mono ?_
   rintro e n4 ⟨rfl,hb⟩
   have BX:=(hb.cell (World.block_lt_of_cell? _ _ (hH.1))).trans (hH.1)
   have BZ:=(hb.cell (World.block_lt_of_cell? _ _ (hH.2.1))).trans (hH.2.1)
   have B_:=(hb.cell (World.block_lt_of_cell? _ _ (hH.2.2.1))).trans (hH.2.2.1)
   have Cb:=(hb.cell (World.block_lt_of_cell? _ _ (hH.2.2.2.1))).trans (hH.2.2.2.1)
   have Cc:=(hb.cell (World.block_lt_of_cell? _ _ (hH.2.2.2.2.1))).trans (hH.2.2.2.2.1)
   have Ce:=(hb.cell (World.block_lt_of_cell? _ _ (hH.2.2.2.2.2))).trans (hH.2.2.2.2.2)
   refine ⟨_,rfl,?_⟩
   obtain ⟨bQ,HK,HB⟩:=p_ (Kd.bn (aG bQ) hb) <| p_ (Kept.below (S:=(fun aF=>eG aF)) jh hb) <| a_ (dI ay hb)
   (try clear hb)
   refine hK.out _ _ ⟨BX,BZ,B_,Cb,Cc,Ce⟩ (fun hH=>?_)
   clear hK K
   refine fD (some 169) ?_
   refine aI 12 ?_
   refine aI 13 ?_
   refine iF (jB aS.out aB) ?_
   go_upto_if 171 with (fail)
   (try clear bh bi bj)
   (try clear bl bm fK)
   obtain ⟨H⟩:=js
   revert H;refine gI (fun cg H=>?_) fun cg H=>?_
   ·try simp only [bI,bY,cg]
    have H':=m_ H
    clear H
    go_wp2
    go_roundg k2
    case measure=>have:=xF.out;have:=jv.out;omega
    case rel=>exact ⟨(a8),(pV),bg,(by first|rfl|(simp;done)|(simp only [← Dh] <;> (first|rfl|simp))|(simp [*];done)),H',⟨(by have:=xF.out;have:=jv.out;omega)⟩,⟨(aG bQ)⟩,⟨jh⟩,⟨ay⟩⟩
   try simp only [bI,bY,cg]
   have H':=m_ H
   clear H
   go_wp2
   go_roundg k2
   case measure=>have:=xF.out;have:=jv.out;omega
   case rel=>exact ⟨(wrap64 ((pV)+1)),(aN),(by first|rfl|(simp;done)|(simp only [← Dh] <;> (first|rfl|simp))|(simp [*];done)),bg,H',⟨(by have:=xF.out;have:=jv.out;omega)⟩,⟨(aG bQ)⟩,⟨jh⟩,⟨ay⟩⟩
  have gr:=m_ H
  clear H
  go_upto_region 39 with (fail)
  go_cut [185] (fun acZ wc=>∃ (kq:Nat) (ci:Bool),acZ=.bool ci∧aA (d_.j6 kq l0 a1 a2 a3 a4 (wrap64 ((IntKind.u64.wrap (wrap64 (a1+a3))) / 2)) a8 (wrap64 ((wrap64 ((wrap64 ((IntKind.u64.wrap (wrap64 (a1+a3))) / 2))+a2)) - a8)) ci=some r)∧aA (kq≤k2)∧aA (Kd.R bF 43 wc w0.heap.size (fun aF=>(eG aF∨w.heap.size≤aF)) jk l0)∧aA (Kept w wc (fun aF=>eG aF))∧aA (Below w0.heap.size w0 wc))
  case first =>
   obtain ⟨H⟩:=gr
   revert H;refine gI (fun ch H=>?_) fun ch H=>?_
   rotate_left
   ·try simp only [bI,bY,ch]
    have H':=m_ H
    clear H
    go_wp2
    go_meet
    case rel=>exact ⟨_,(false),bg,H',⟨(by have:=xF.out;have:=jv.out;first|omega|exact Nat.le_refl _)⟩,⟨(aG bQ)⟩,⟨jh⟩,⟨ay⟩⟩
   try simp only [bI,bY,ch]
   have H':=m_ H
   clear H
   go_wp2
   go_meet
   case rel=>exact ⟨_,(decide (a2 < (wrap64 ((wrap64 ((wrap64 ((IntKind.u64.wrap (wrap64 (a1+a3))) / 2))+a2)) - a8)))),bg,H',⟨(by have:=xF.out;have:=jv.out;first|omega|exact Nat.le_refl _)⟩,⟨(aG bQ)⟩,⟨jh⟩,⟨ay⟩⟩
  case rest =>
  clear gr
  try clear fh;try clear e8
  obtain ⟨kq,ci,rfl,HA,F8,bQ,HK,HB⟩:=hcut
  cases kq with
  | zero=>exact absurd HA.out (by simp [d_.j6])
  | succ UO =>
  obtain ⟨H⟩:=HA
  simp only [d_.j6] at H
  have gs:=m_ H
  clear H
  go_upto_if 185 with (fail)
  go_cut [] (fun wc=>∃ (kq:Nat) (ab:List (aC)),aA (d_.j7 kq ab a1 a3 a4 (wrap64 ((IntKind.u64.wrap (wrap64 (a1+a3))) / 2)) a8 (wrap64 ((wrap64 ((wrap64 ((IntKind.u64.wrap (wrap64 (a1+a3))) / 2))+a2)) - a8))=some r)∧aA (kq≤UO)∧aA (Kd.R bF 43 wc w0.heap.size (fun aF=>(eG aF∨w.heap.size≤aF)) jk ab)∧aA (Kept w wc (fun aF=>eG aF))∧aA (Below w0.heap.size w0 wc))
  case first =>
   obtain ⟨H⟩:=gs
   by_cases i2:ci=true
   rotate_left
   ·replace i2:=Bool.eq_false_iff.mpr i2
    subst i2
    rw [if_neg iO] at H
    have H':=m_ H
    clear H
    go_wp2
    go_meet
    case rel=>exact ⟨_,(l0),H',⟨(by have:=xF.out;have:=jv.out;have:=F8.out;first|omega|exact Nat.le_refl _)⟩,⟨(aG bQ)⟩,⟨jh⟩,⟨ay⟩⟩
   subst i2
   rw [if_pos rfl] at H
   obtain ⟨DI,mt,H⟩:=bd_ H
   have H':=m_ H
   clear H
   obtain ⟨gt,zh,ls⟩:=Kd.dJ bQ.out
   subst ls
   go_wp2_with (first|((with_reducible refine bU 148 ?_);refine bV (some 191) rfl rfl func148 aB rfl #[.slice gt l0.length zh,ah a8,ah a2,ah (wrap64 ((wrap64 ((wrap64 ((IntKind.u64.wrap (wrap64 (a1+a3))) / 2))+a2)) - a8)),.func (.func 48) #[] #[]] rfl aW ?_;(with_reducible refine (uZ.calls UO (fun aF=>some aF=(.slice gt l0.length zh:Value).ownBlock) (.slice gt l0.length zh) l0 a8 a2 (wrap64 ((wrap64 ((wrap64 ((IntKind.u64.wrap (wrap64 (a1+a3))) / 2))+a2)) - a8)) a4 DI w0 _ ay (Kd.rU rfl bQ.out) mt.out).mono ?_);rintro e n5 ⟨rfl,e9,hb,hkp⟩;refine ⟨_,rfl,?_⟩;obtain ⟨bQ,HK,HB⟩:=p_ (Kd.vX rfl e9 (fun aF e_=>bQ.out.1 aF e_)) <| p_ (Kept.then_ (S:=(fun aF=>eG aF)) jh hkp (fun aF hs_=>(fun e_=>(bQ.out.1 aF e_.symm)) hs_)) <| a_ (hb);(try clear hb);(try clear hkp);(try clear e9)))
   go_meet
   case rel=>exact ⟨_,(DI),H',⟨(by have:=xF.out;have:=jv.out;have:=F8.out;first|omega|exact Nat.le_refl _)⟩,⟨(aG bQ)⟩,⟨jh⟩,⟨ay⟩⟩
  case rest =>
  clear gs
  obtain ⟨kq,ab,HA,LD,bQ,HK,HB⟩:=hcut
  cases kq with
  | zero=>exact absurd HA.out (by simp [d_.j7])
  | succ aa9 =>
  obtain ⟨H⟩:=HA
  simp only [d_.j7] at H
  have gv:=m_ H
  clear H
  go_upto_region 41 with (fail)
  go_cut [199] (fun ac0 wc=>∃ (kq:Nat) (cj:Bool),ac0=.bool cj∧aA (d_.j8 kq ab a1 a3 a4 (wrap64 ((IntKind.u64.wrap (wrap64 (a1+a3))) / 2)) a8 (wrap64 ((wrap64 ((wrap64 ((IntKind.u64.wrap (wrap64 (a1+a3))) / 2))+a2)) - a8)) cj=some r)∧aA (kq≤aa9)∧aA (Kd.R bF 43 wc w0.heap.size (fun aF=>(eG aF∨w.heap.size≤aF)) jk ab)∧aA (Kept w wc (fun aF=>eG aF))∧aA (Below w0.heap.size w0 wc))
  case first =>
   obtain ⟨H⟩:=gv
   revert H;refine gI (fun d5 H=>?_) fun d5 H=>?_
   rotate_left
   ·try simp only [bI,bY,d5]
    have H':=m_ H
    clear H
    go_wp2
    go_meet
    case rel=>exact ⟨_,(false),bg,H',⟨(by have:=xF.out;have:=jv.out;have:=F8.out;have:=LD.out;first|omega|exact Nat.le_refl _)⟩,⟨(aG bQ)⟩,⟨jh⟩,⟨ay⟩⟩
   try simp only [bI,bY,d5]
   have H':=m_ H
   clear H
   go_wp2
   go_meet
   case rel=>exact ⟨_,(decide (a8 < (wrap64 ((IntKind.u64.wrap (wrap64 (a1+a3))) / 2)))),bg,H',⟨(by have:=xF.out;have:=jv.out;have:=F8.out;have:=LD.out;first|omega|exact Nat.le_refl _)⟩,⟨(aG bQ)⟩,⟨jh⟩,⟨ay⟩⟩
  case rest =>
  clear gv
  obtain ⟨kq,cj,rfl,HA,X3,bQ,HK,HB⟩:=hcut
  cases kq with
  | zero=>exact absurd HA.out (by simp [d_.j8])
  | succ J4 =>
  obtain ⟨H⟩:=HA
  simp only [d_.j8] at H
  by_cases lc:cj=true
  rotate_left
  ·replace lc:=Bool.eq_false_iff.mpr lc
   subst lc
   rw [if_neg iO] at H
   revert H;refine gI (fun Ib H=>?_) fun Ib H=>?_
   rotate_left
   ·obtain rfl:=cZ H
    go_wp2
    first|go_end0|((try simp only [Exit.inBlock,Exit.then]);refine bodyPost_ret (results_none rfl _ _ _) rfl ?_)
    exact ⟨b_,(aG bQ),ay,jh⟩
   revert H;refine gI (fun jx H=>?_) fun jx H=>?_
   rotate_left
   ·obtain rfl:=cZ H
    go_wp2
    first|go_end0|((try simp only [Exit.inBlock,Exit.then]);refine bodyPost_ret (results_none rfl _ _ _) rfl ?_)
    exact ⟨b_,(aG bQ),ay,jh⟩
   obtain ⟨Ij,mv,H⟩:=bd_ H
   obtain rfl:=cZ H
   obtain ⟨gx,yN,lv⟩:=Kd.dJ bQ.out
   subst lv
   go_wp2_with (first|((with_reducible refine bU 133 ?_);refine bV (some 219) rfl rfl func133 aB rfl #[.slice gx ab.length yN,ah (wrap64 ((IntKind.u64.wrap (wrap64 (a1+a3))) / 2)),ah (wrap64 ((wrap64 ((wrap64 ((IntKind.u64.wrap (wrap64 (a1+a3))) / 2))+a2)) - a8)),ah a3,.func (.func 48) #[] #[]] rfl aW ?_;(with_reducible refine (ih J4 KD (fun aF=>some aF=(.slice gx ab.length yN:Value).ownBlock) (.slice gx ab.length yN) ab (wrap64 ((IntKind.u64.wrap (wrap64 (a1+a3))) / 2)) (wrap64 ((wrap64 ((wrap64 ((IntKind.u64.wrap (wrap64 (a1+a3))) / 2))+a2)) - a8)) a3 a4 Ij w0 _ ay (Kd.rU rfl bQ.out) mv.out).mono ?_);rintro e n7 ⟨rfl,e9,hb,hkp⟩;refine ⟨_,rfl,?_⟩;obtain ⟨bQ,HK,HB⟩:=p_ (Kd.vX rfl e9 (fun aF e_=>bQ.out.1 aF e_)) <| p_ (Kept.then_ (S:=(fun aF=>eG aF)) jh hkp (fun aF hs_=>(fun e_=>(bQ.out.1 aF e_.symm)) hs_)) <| a_ (hb);(try clear hb);(try clear hkp);(try clear e9)))
   first|go_end0|((try simp only [Exit.inBlock,Exit.then]);refine bodyPost_ret (results_none rfl _ _ _) rfl ?_)
   exact ⟨b_,(aG bQ),ay,jh⟩
  subst lc
  rw [if_pos rfl] at H
  obtain ⟨gz,lz,H⟩:=bd_ H
  revert H;refine gI (fun Ic H=>?_) fun Ic H=>?_
  rotate_left
  ·obtain rfl:=cZ H
   obtain ⟨h8,h9,lw⟩:=Kd.dJ bQ.out
   subst lw
   go_wp2_with (first|((with_reducible refine bU 133 ?_);refine bV (some 205) rfl rfl func133 aB rfl #[.slice h8 ab.length h9,ah a1,ah a8,ah (wrap64 ((IntKind.u64.wrap (wrap64 (a1+a3))) / 2)),.func (.func 48) #[] #[]] rfl aW ?_;(with_reducible refine (ih J4 KD (fun aF=>some aF=(.slice h8 ab.length h9:Value).ownBlock) (.slice h8 ab.length h9) ab a1 a8 (wrap64 ((IntKind.u64.wrap (wrap64 (a1+a3))) / 2)) a4 gz w0 _ ay (Kd.rU rfl bQ.out) lz.out).mono ?_);rintro e n8 ⟨rfl,e9,hb,hkp⟩;refine ⟨_,rfl,?_⟩;obtain ⟨bQ,HK,HB⟩:=p_ (Kd.vX rfl e9 (fun aF e_=>bQ.out.1 aF e_)) <| p_ (Kept.then_ (S:=(fun aF=>eG aF)) jh hkp (fun aF hs_=>(fun e_=>(bQ.out.1 aF e_.symm)) hs_)) <| a_ (hb);(try clear hb);(try clear hkp);(try clear e9)))
   first|go_end0|((try simp only [Exit.inBlock,Exit.then]);refine bodyPost_ret (results_none rfl _ _ _) rfl ?_)
   exact ⟨b_,(aG bQ),ay,jh⟩
  have jz:=m_ H
  clear H
  obtain ⟨el,em,lx⟩:=Kd.dJ bQ.out
  subst lx
  go_upto_if 213 with (first|((with_reducible refine bU 133 ?_);refine bV (some 205) rfl rfl func133 aB rfl #[.slice el ab.length em,ah a1,ah a8,ah (wrap64 ((IntKind.u64.wrap (wrap64 (a1+a3))) / 2)),.func (.func 48) #[] #[]] rfl aW ?_;(with_reducible refine (ih J4 KD (fun aF=>some aF=(.slice el ab.length em:Value).ownBlock) (.slice el ab.length em) ab a1 a8 (wrap64 ((IntKind.u64.wrap (wrap64 (a1+a3))) / 2)) a4 gz w0 _ ay (Kd.rU rfl bQ.out) lz.out).mono ?_);rintro e n9 ⟨rfl,e9,hb,hkp⟩;refine ⟨_,rfl,?_⟩;obtain ⟨bQ,HK,HB⟩:=p_ (Kd.vX rfl e9 (fun aF e_=>bQ.out.1 aF e_)) <| p_ (Kept.then_ (S:=(fun aF=>eG aF)) jh hkp (fun aF hs_=>(fun e_=>(bQ.out.1 aF e_.symm)) hs_)) <| a_ (hb);(try clear hb);(try clear hkp);(try clear e9)))
  (try simp only [Act.put,List.setIfInBounds_toArray,List.set_cons_zero,List.set_cons_succ])
  obtain ⟨H⟩:=jz
  revert H;refine gI (fun dt H=>?_) fun dt H=>?_
  rotate_left
  ·try simp only [bI,bY,dt]
   obtain rfl:=cZ H
   go_wp2
   first|go_end0|((try simp only [Exit.inBlock,Exit.then]);refine bodyPost_ret (results_none rfl _ _ _) rfl ?_)
   exact ⟨b_,(aG bQ),ay,jh⟩
  try simp only [bI,bY,dt]
  obtain ⟨ly,mw,H⟩:=bd_ H
  obtain rfl:=cZ H
  go_wp2_with (first|((with_reducible refine bU 133 ?_);refine bV (some 219) rfl rfl func133 aB rfl #[.slice el ab.length em,ah (wrap64 ((IntKind.u64.wrap (wrap64 (a1+a3))) / 2)),ah (wrap64 ((wrap64 ((wrap64 ((IntKind.u64.wrap (wrap64 (a1+a3))) / 2))+a2)) - a8)),ah a3,.func (.func 48) #[] #[]] rfl aW ?_;(with_reducible refine (ih J4 KD (fun aF=>some aF=(.slice el ab.length em:Value).ownBlock) (.slice el ab.length em) gz (wrap64 ((IntKind.u64.wrap (wrap64 (a1+a3))) / 2)) (wrap64 ((wrap64 ((wrap64 ((IntKind.u64.wrap (wrap64 (a1+a3))) / 2))+a2)) - a8)) a3 a4 ly w0 _ ay (Kd.rU rfl bQ.out) mw.out).mono ?_);rintro e na ⟨rfl,e9,hb,hkp⟩;refine ⟨_,rfl,?_⟩;obtain ⟨bQ,HK,HB⟩:=p_ (Kd.vX rfl e9 (fun aF e_=>bQ.out.1 aF e_)) <| p_ (Kept.then_ (S:=(fun aF=>eG aF)) jh hkp (fun aF hs_=>(fun e_=>(bQ.out.1 aF e_.symm)) hs_)) <| a_ (hb);(try clear hb);(try clear hkp);(try clear e9)))
  first|go_end0|((try simp only [Exit.inBlock,Exit.then]);refine bodyPost_ret (results_none rfl _ _ _) rfl ?_)
  exact ⟨b_,(aG bQ),ay,jh⟩

end Go.Proofs.YthejdhjpbpamoaaGreatDoor.jM
