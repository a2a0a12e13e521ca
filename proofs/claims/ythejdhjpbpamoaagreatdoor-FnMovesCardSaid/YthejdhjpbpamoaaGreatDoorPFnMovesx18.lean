/- Contracts of Go functions: each call returns what the Lean function beside it computes. Conditions: as each theorem states them. -/
import Derived.Test.YthejdhjpbpamoaaGreatDoorPkFnMoves
import Derived.Test.YthejdhjpbpamoaaGreatDoorPFnMovesx1
namespace Go.Proofs.YthejdhjpbpamoaaGreatDoor.jM
open Go.RowKit Go.Proofs.YthejdhjpbpamoaaGreatDoorW.iK Go.Proofs.YthejdhjpbpamoaaGreatDoorW.lX Go.Proofs.YthejdhjpbpamoaaGreatDoorW.oV Go.Proofs.Tryz
attribute [local go_sem] qI qM qL qP qK qO qJ qN   -- for this text's walks alone
set_option linter.unusedVariables false
set_option maxHeartbeats 8000000
set_option maxRecDepth 100000
set_option linter.unusedSimpArgs false

def pq.l0:Nat→List (aC)→Int→Int→Int→Int→Option ((List (aC)))
 | 0,_,_,_,_,_=>none
 | k+1,x0,x1,x2,x3,a5=>if a5 < x3 then (if 0≤(wrap64 (x2+a5)) then (if (wrap64 (x2+a5)) < (x0.length:Int) then (if 0≤(wrap64 (x1+a5)) then (if (wrap64 (x1+a5)) < (x0.length:Int) then (pq.l0 k ((x0.set ((wrap64 (x1+a5)):Int).toNat (⟨(au x0 (wrap64 (x2+a5))).f0,(au x0 (wrap64 (x2+a5))).f1,(au x0 (wrap64 (x2+a5))).f2⟩:aC)).set ((wrap64 (x2+a5)):Int).toNat (⟨(au x0 (wrap64 (x1+a5))).f0,(au x0 (wrap64 (x1+a5))).f1,(au x0 (wrap64 (x1+a5))).f2⟩:aC)) x1 x2 x3 (wrap64 (a5+1))) else (none)) else (none)) else (none)) else (none)) else (some x0)
def pq.f (k:Nat) (l0:List (aC)) (a1:Int) (a2:Int) (a3:Int) (a4:Unit):Option ((List (aC))):=pq.l0 k l0 a1 a2 a3 0
def pq.T3:Bool × List (List Nat × List Nat):=(true,[([],[]),([],[]),([],[]),([1,2],[1,2]),([],[]),([],[]),([],[]),([5,6],[5,6]),([],[]),([],[]),([],[]),([9,10],[9,10]),([8,11],[8,11]),([12],[12]),([],[]),([],[]),([],[]),([15,16],[15,16]),([14,17],[14,17]),([18],[18]),([0,3,0,1,2,3,8,9,10,11,12,13,19],[0,3]),([20,13,0,1,2,3,8,9,10,11,12,13,19],[13,20]),([4,7,0,1,2,3,4,5,6,7,8,9,10,11,12,13,14,15,16,17,18,19,20,21],[4,7]),([22,19,21,0,1,2,3,4,5,6,7,8,9,10,11,12,13,14,15,16,17,18,19,20,21],[19,22])])
def pq.B3:List Nat:=[0,0,0,6,0,0,0,96,0,0,0,1536,3840,7936,0,0,0,98304,245760,507904,1048335,2096911,4194303,8388607]
theorem pq.calls (k:Nat) (eG:Nat→Prop) (jk:Value) (l0:List (aC)) (a1:Int) (a2:Int) (a3:Int) (a4:Unit) (r:List (aC)) (w0 w:World) (hB:Below w0.heap.size w0 w) (ho0:Kd.R bF 43 w w0.heap.size eG jk l0) (h:pq.f k l0 a1 a2 a3 a4=some r) :
  Calls Tryz.prog 157 #[jk,ah a1,ah a2,ah a3,.func (.func 48) #[] #[]] w fun e w'=>e=.returned (.tuple #[])∧Kd.R bF 43 w' w0.heap.size (fun aF=>(eG aF∨w.heap.size≤aF)) jk r∧Below w0.heap.size w0 w'∧Kept w w' (fun aF=>eG aF):=by
 have rF:=underlying43
 have ch:=m_ (show Kd.R bF 43 w w0.heap.size (fun aF=>(eG aF∨w.heap.size≤aF)) jk l0 from Kd.bW ho0 (fun aF hk=>(.inl hk)))
 have HK:=m_ (Kept.refl w (fun aF=>eG aF))
 have HW0:=m_ hB.size
 have HB:=m_ hB
 clear hB
 unfold pq.f at h
 have H:=h
 clear h
 have H':=m_ H
 clear H
 go_enter func157,ntmps157
 go_wp2
 go_loopg [10] k (fun kq v10 w'=>∃ (a5:List (aC)) (a7:Int),v10=ah a7∧aA (pq.l0 kq a5 a1 a2 a3 a7=some r)∧aA (kq≤k)∧aA (Kd.R bF 43 w' w0.heap.size (fun aF=>(eG aF∨w.heap.size≤aF)) jk a5)∧aA (Kept w w' (fun aF=>eG aF))∧aA (Below w0.heap.size w0 w'))
 case atStart=>exact ⟨(l0),(0),bg,H',⟨Nat.le_refl _⟩,⟨(aG ch)⟩,⟨jh⟩,⟨ay⟩⟩
 case round =>
 clear H'
 obtain ⟨a5,a7,rfl,HA,iq,bQ,HK,HB⟩:=hrel
 cases gk with
 | zero=>exact absurd HA.out (by simp [pq.l0])
 | succ k1 =>
 obtain ⟨H⟩:=HA
 simp only [pq.l0] at H
 revert H;refine gI (fun bu H=>?_) fun bu H=>?_
 rotate_left
 ·obtain rfl:=cZ H
  go_wp2
  first|go_end0|((try simp only [Exit.inBlock,Exit.then]);refine bodyPost_ret (results_none rfl _ _ _) rfl ?_)
  exact ⟨b_,(aG bQ),ay,jh⟩
 obtain ⟨jq,Ob⟩:∃ mQ:Int,(wrap64 (a2+a7))=mQ:=⟨_,rfl⟩
 replace H:(if 0≤(jq) then (if (jq) < (a5.length:Int) then (if 0≤(wrap64 (a1+a7)) then (if (wrap64 (a1+a7)) < (a5.length:Int) then (pq.l0 k1 ((a5.set ((wrap64 (a1+a7)):Int).toNat (⟨(au a5 (jq)).f0,(au a5 (jq)).f1,(au a5 (jq)).f2⟩:aC)).set ((jq):Int).toNat (⟨(au a5 (wrap64 (a1+a7))).f0,(au a5 (wrap64 (a1+a7))).f1,(au a5 (wrap64 (a1+a7))).f2⟩:aC)) a1 a2 a3 (wrap64 (a7+1))) else (none)) else (none)) else (none)) else (none))=some r:=by first|(rw [Ob] at H;exact H)|(simp only [Ob] at H ⊢;exact H)
 have agi:(IntKind.i64.wrap (a2+a7))=jq:=(bI _).trans Ob
 obtain ⟨ci,H⟩:=fU H
 obtain ⟨cj,H⟩:=fU H
 obtain ⟨jU,Oa⟩:∃ mQ:Int,(wrap64 (a1+a7))=mQ:=⟨_,rfl⟩
 replace H:(if 0≤(jU) then (if (jU) < (a5.length:Int) then (pq.l0 k1 ((a5.set ((jU):Int).toNat (⟨(au a5 (jq)).f0,(au a5 (jq)).f1,(au a5 (jq)).f2⟩:aC)).set ((jq):Int).toNat (⟨(au a5 (jU)).f0,(au a5 (jU)).f1,(au a5 (jU)).f2⟩:aC)) a1 a2 a3 (wrap64 (a7+1))) else (none)) else (none))=some r:=by first|(rw [Oa] at H;exact H)|(simp only [Oa] at H ⊢;exact H)
 have af8:(IntKind.i64.wrap (a1+a7))=jU:=(bI _).trans Oa
 obtain ⟨ce,H⟩:=fU H
 obtain ⟨cg,H⟩:=fU H
 obtain ⟨aT,al⟩:∃ y_:List (aC),y_=(a5.set ((jU):Int).toNat (⟨(au a5 (jq)).f0,(au a5 (jq)).f1,(au a5 (jq)).f2⟩:aC)):=⟨_,rfl⟩
 rw [← al] at H
 have b9:=m_ al
 clear al
 obtain ⟨ba,am⟩:∃ y_:List (aC),y_=(aT.set ((jq):Int).toNat (⟨(au a5 (jU)).f0,(au a5 (jU)).f1,(au a5 (jU)).f2⟩:aC)):=⟨_,rfl⟩
 rw [← am] at H
 have bb:=m_ am
 clear am
 have H':=m_ H
 clear H
 try go_wp2
 obtain ⟨bQ,HK,HB⟩:=p_ (Kd.bK bQ.out) <| p_ (Kept.drew HK.out) <| a_ (k_ HB.out)
 obtain ⟨ck,cl,bc⟩:=Kd.dJ bQ.out
 (first|subst bc|(injection bc with dP fZ dQ;have f_:=dP.symm;have gq:=dQ.symm;clear dP fZ dQ;subst f_;subst gq))
 have ar:0≤((jq):Int):=bC bD
 have bP:(jq) < (a5.length:Int):=bC bD
 obtain ⟨bd,bv,a8,a9,aa⟩:=jP (Kd.bZ bQ.out).2.2 (jq) ar bP
 cases bv
 replace ar:=eq_true ar
 replace bP:=eq_true bP
 have av:0≤((jU):Int):=bC bD
 have aw:(jU) < (a5.length:Int):=bC bD
 obtain ⟨be,bw,ab,ac,ae⟩:=jP (Kd.bZ bQ.out).2.2 (jU) av aw
 obtain rfl:bd=be:=(by injection bw)
 replace av:=eq_true av
 replace aw:=eq_true aw
 have bx:0≤((jU):Int):=bC bD
 have bz:((jU):Int) < ((a5.length:Int):Int):=bC bD
 obtain ⟨a6,cm,fF,dM,ca,cn,bh⟩:=Kd.zf bQ.out (by omega)
 (first|cases fF|(injection fF with lK vH vG;(first|subst lK|(injection lK with lK;subst lK));subst vG;clear vH))
 have aN:=m_ dM
 have cc:=m_ bh
 clear dM ca bh
 have Eo:=m_ (show (eG a6∨w.heap.size≤a6) from (bQ.out.1 _ rfl))
 (first|simp only [add_plain] at a8|skip)
 (first|simp only [add_plain] at a9|skip)
 (first|simp only [add_plain] at aa|skip)
 (first|simp only [add_plain] at ab|skip)
 (first|simp only [add_plain] at ac|skip)
 (first|simp only [add_plain] at ae|skip)
 obtain ⟨co,bi,bj,af,ag⟩:=Kd.oW bQ.out z43 ((jU):Int) bx bz
 obtain rfl:=o9 bj
 have ax:World.cell? _ ⟨a6,((jU):Int).toNat * 3,none⟩=some (.string ((au a5 (jU)).f0)):=af 0 _ rfl
 have dw:World.cell? _ ⟨a6,((jU):Int).toNat * 3+1,none⟩=some (.bool ((au a5 (jU)).f1)):=af 1 _ rfl
 have az:World.cell? _ ⟨a6,((jU):Int).toNat * 3+2,none⟩=some (.string ((au a5 (jU)).f2)):=af 2 _ rfl
 have b0:World.frozen? _ ⟨a6,((jU):Int).toNat * 3,none⟩=false:=ag 0
 have b1:World.frozen? _ ⟨a6,((jU):Int).toNat * 3+1,none⟩=false:=ag 1
 have b2:World.frozen? _ ⟨a6,((jU):Int).toNat * 3+2,none⟩=false:=ag 2
 clear bi af ag bj
 replace bx:=eq_true bx
 replace bz:=eq_true bz
 obtain ⟨cp,an,bl,ao,bm⟩:=Kd.oW bQ.out z43 ((jU):Int) (bC bD) (by have dV:((jU):Int) < ((a5.length:Int):Int):=bC bD;first|exact dV|(have e_:=(Kd.bZ bQ.out).1;omega)|simpa using dV)
 obtain rfl:=o9 bl
 have LH:=(Kd.yu bQ.out ((jU):Int) (bC bD) (by have dV:((jU):Int) < ((a5.length:Int):Int):=bC bD;first|exact dV|(have e_:=(Kd.bZ bQ.out).1;omega)|simpa using dV) (seg:=[.string ((au a5 (jq)).f0),.bool ((au a5 (jq)).f1),.string ((au a5 (jq)).f2)]) (j:=0) an ao (show 3≤3 from by decide) (x':=(⟨(au a5 (jq)).f0,(au a5 (jq)).f1,(au a5 (jq)).f2⟩:aC)) (qX _ _ _ (⟨(au a5 (jq)).f0,(au a5 (jq)).f1,(au a5 (jq)).f2⟩:aC) ) (fun _ hk=>hk)).1
 rw [← b9.out] at LH
 have I_:=m_ LH
 clear an ao bm bl LH
 have br:0≤((jq):Int):=bC bD
 have bs:((jq):Int) < ((a5.length:Int):Int):=bC bD
 obtain ⟨cq,fK,bo,aP,ai⟩:=Kd.oW I_.out z43 ((jq):Int) br bs
 obtain rfl:=o9 bo
 have b3:World.cell? _ ⟨a6,((jq):Int).toNat * 3,none⟩=some (.string ((au aT (jq)).f0)):=aP 0 _ rfl
 have b4:World.cell? _ ⟨a6,((jq):Int).toNat * 3+1,none⟩=some (.bool ((au aT (jq)).f1)):=aP 1 _ rfl
 have b5:World.cell? _ ⟨a6,((jq):Int).toNat * 3+2,none⟩=some (.string ((au aT (jq)).f2)):=aP 2 _ rfl
 have b6:World.frozen? _ ⟨a6,((jq):Int).toNat * 3,none⟩=false:=ai 0
 have b7:World.frozen? _ ⟨a6,((jq):Int).toNat * 3+1,none⟩=false:=ai 1
 have b8:World.frozen? _ ⟨a6,((jq):Int).toNat * 3+2,none⟩=false:=ai 2
 clear fK aP ai bo
 replace br:=eq_true br
 replace bs:=eq_true bs
 obtain ⟨cr,ap,bp,aq,bq⟩:=Kd.oW I_.out z43 ((jq):Int) (bC bD) (by have dV:((jq):Int) < ((a5.length:Int):Int):=bC bD;first|exact dV|(have e_:=(Kd.bZ bQ.out).1;omega)|simpa using dV)
 obtain rfl:=o9 bp
 have LJ:=(Kd.yu I_.out ((jq):Int) (bC bD) (by have dV:((jq):Int) < ((a5.length:Int):Int):=bC bD;first|exact dV|(have e_:=(Kd.bZ bQ.out).1;omega)|simpa using dV) (seg:=[.string ((au a5 (jU)).f0),.bool ((au a5 (jU)).f1),.string ((au a5 (jU)).f2)]) (j:=0) ap aq (show 3≤3 from by decide) (x':=(⟨(au a5 (jU)).f0,(au a5 (jU)).f1,(au a5 (jU)).f2⟩:aC)) (qX _ _ _ (⟨(au a5 (jU)).f0,(au a5 (jU)).f1,(au a5 (jU)).f2⟩:aC) ) (fun _ hk=>hk)).1
 rw [← bb.out] at LJ
 have Qy:=m_ LJ
 clear ap aq bq bp LJ
 refine iH (n:=24) (S:=fun w'=>Ji w' a6 (((jq)).toNat * 3) (.string ((au a5 (jq)).f0)) (.bool ((au a5 (jq)).f1)) (.string ((au a5 (jq)).f2)) <| Jj w' a6 (((jU)).toNat * 3) (.string ((au a5 (jU)).f0)) (.bool ((au a5 (jU)).f1)) (.string ((au a5 (jU)).f2))) (ds:=[21,23]) Gw aB rfl rfl ⟨a8,a9,aa,ab,ac,ae⟩ (fun hH=>?_);refine jC (T:=pq.T3) (B:=pq.B3) aB aB (fun aS gJ=>?_)
 generalize wr.drew=ct at bQ HK HB cc I_ Qy b0 b1 b2 b6 b7 b8 ax dw az b3 b4 b5 a8 a9 aa ab ac ae hH ⊢
 refine aI 0 ?_
 refine aI 1 ?_
 refine aI 2 ?_
 refine aI 3 ?_
 refine aI 4 ?_
 refine aI 5 ?_
 refine aI 6 ?_
 refine aI 7 ?_
 refine aI 8 ?_
 refine aI 9 ?_
 refine aI 10 ?_
 refine aI 11 ?_
 refine aI 12 ?_
 refine aI 14 ?_
 refine aI 15 ?_
 refine eY 16 32 #[ak,ak,ak,ak,ak,ak,ak,ak,ak,ak,ak,ak,ak,F_,ak,ak,ak,F_,F_,F_,F_,F_,F_,F_] aS ?_
 refine eY 17 33 #[ak,ak,ak,ak,ak,ak,ak,ak,ak,ak,ak,ak,ak,F_,ak,ak,ak,ak,F_,F_,F_,F_,F_,F_] aS ?_
 refine eY 18 34 #[ak,ak,ak,ak,ak,ak,ak,ak,ak,ak,ak,ak,ak,F_,ak,ak,ak,ak,ak,F_,F_,F_,F_,F_] aS ?_
 refine fV 13 hH ?_
 refine fV 19 hH ?_
 refine aI 20 ?_
 refine wz 21 (fun K hK=>?_)
 refine jr (w1:=?_) (by rfl) rfl ?_ ?_
 rotate_left
 ·go_simp
  rfl
 refine hK.out _ _ ?_
 clear hK K
 refine aI 22 ?_
 refine wz 23 (fun K hK=>?_)
 refine jr (w1:=?_) (by rfl) rfl ?_ ?_
 rotate_left
 ·obtain ⟨Nj,N9,Dc,vK,vM⟩:=Kd.oW bQ.out z43 ((jq):Int) (of_eq_true br) (of_eq_true bs)
  obtain rfl:=o9 Dc
  have Ny:World.frozen? _ ⟨a6,((jq):Int).toNat * 3,none⟩=false:=vM 0
  have D5:World.cell? _ ⟨a6,((jq):Int).toNat * 3,none⟩=some _:=vK 0 _ rfl
  obtain ⟨_,Ns⟩:=cell?_setCell_some (p:=⟨a6,((jU):Int).toNat * 3,none⟩) (x:=.string ((au a5 (jq)).f0)) D5
  have Nz:World.frozen? _ ⟨a6,((jq):Int).toNat * 3+1,none⟩=false:=vM 1
  have D6:World.cell? _ ⟨a6,((jq):Int).toNat * 3+1,none⟩=some _:=vK 1 _ rfl
  obtain ⟨_,CY⟩:=cell?_setCell_some (p:=⟨a6,((jU):Int).toNat * 3,none⟩) (x:=.string ((au a5 (jq)).f0)) D6
  obtain ⟨_,Nu⟩:=cell?_setCell_some (p:=⟨a6,((jU):Int).toNat * 3+1,none⟩) (x:=.bool ((au a5 (jq)).f1)) CY
  have NC:World.frozen? _ ⟨a6,((jq):Int).toNat * 3+2,none⟩=false:=vM 2
  have D7:World.cell? _ ⟨a6,((jq):Int).toNat * 3+2,none⟩=some _:=vK 2 _ rfl
  obtain ⟨_,CZ⟩:=cell?_setCell_some (p:=⟨a6,((jU):Int).toNat * 3,none⟩) (x:=.string ((au a5 (jq)).f0)) D7
  obtain ⟨_,C9⟩:=cell?_setCell_some (p:=⟨a6,((jU):Int).toNat * 3+1,none⟩) (x:=.bool ((au a5 (jq)).f1)) CZ
  obtain ⟨_,Nv⟩:=cell?_setCell_some (p:=⟨a6,((jU):Int).toNat * 3+2,none⟩) (x:=.string ((au a5 (jq)).f2)) C9
  go_simp
  rfl
 refine hK.out _ _ ?_
 clear hK K
 refine iF (jB aS.out aB) ?_
 try go_wp2
 go_roundg k1
 case measure=>have:=iq.out;omega
 case rel=>exact ⟨(ba),(wrap64 (a7+1)),bg,H',⟨nT⟩,⟨(aG Qy)⟩,⟨(by repeat (first|(with_reducible first|exact HK.out|apply Kept.alloc|apply Kept.drewN|apply Kept.drew|refine Kept.setCell ?_ Eo.out _|refine Kept.setCell ?_ Eo.out _|refine Kept.setCell ?_ Eo.out _|refine Kept.setCell ?_ Eo.out _|refine Kept.setCell ?_ Eo.out _|refine Kept.setCell ?_ Eo.out _)|exact HK.out))⟩,⟨(by repeat (first|(with_reducible first|exact HB.out|apply ny|apply qm|apply k_|refine iL ?_ aN.out|refine iL ?_ aN.out|refine iL ?_ aN.out|refine iL ?_ aN.out|refine iL ?_ aN.out|refine iL ?_ aN.out)|exact HB.out))⟩⟩

def uZ.l0:Nat→List (aC)→Int→Unit→Int→Int→Option ((List (aC)))
 | 0,_,_,_,_,_=>none
 | k+1,x0,x2,x4,a5,a6=>if a5=a6 then ((pq.f k x0 (wrap64 (x2 - a5)) x2 a5 x4).bind fun a7=>(some a7)) else (if a5 > a6 then ((pq.f k x0 (wrap64 (x2 - a5)) x2 a6 x4).bind fun a8=>(uZ.l0 k a8 x2 x4 (wrap64 (a5 - a6)) a6)) else ((pq.f k x0 (wrap64 (x2 - a5)) (wrap64 ((wrap64 (x2+a6)) - a5)) a5 x4).bind fun a9=>(uZ.l0 k a9 x2 x4 a5 (wrap64 (a6 - a5)))))
def uZ.f (k:Nat) (l0:List (aC)) (a1:Int) (a2:Int) (a3:Int) (a4:Unit):Option ((List (aC))):=uZ.l0 k l0 a2 a4 (wrap64 (a2 - a1)) (wrap64 (a3 - a2))
theorem uZ.calls (k:Nat) (eG:Nat→Prop) (jk:Value) (l0:List (aC)) (a1:Int) (a2:Int) (a3:Int) (a4:Unit) (r:List (aC)) (w0 w:World) (hB:Below w0.heap.size w0 w) (ho0:Kd.R bF 43 w w0.heap.size eG jk l0) (h:uZ.f k l0 a1 a2 a3 a4=some r) :
  Calls Tryz.prog 148 #[jk,ah a1,ah a2,ah a3,.func (.func 48) #[] #[]] w fun e w'=>e=.returned (.tuple #[])∧Kd.R bF 43 w' w0.heap.size (fun aF=>(eG aF∨w.heap.size≤aF)) jk r∧Below w0.heap.size w0 w'∧Kept w w' (fun aF=>eG aF):=by
 have ap:=m_ (show Kd.R bF 43 w w0.heap.size (fun aF=>(eG aF∨w.heap.size≤aF)) jk l0 from Kd.bW ho0 (fun aF hk=>(.inl hk)))
 have HK:=m_ (Kept.refl w (fun aF=>eG aF))
 have HW0:=m_ hB.size
 have HB:=m_ hB
 clear hB
 unfold uZ.f at h
 have H:=h
 clear h
 have H':=m_ H
 clear H
 go_enter func148,ntmps148
 go_wp2
 go_loopg [10,11] k (fun kq v10 v11 w'=>∃ (a7:List (aC)) (a5:Int) (a6:Int),v10=ah a5∧v11=ah a6∧aA (uZ.l0 kq a7 a2 a4 a5 a6=some r)∧aA (kq≤k)∧aA (Kd.R bF 43 w' w0.heap.size (fun aF=>(eG aF∨w.heap.size≤aF)) jk a7)∧aA (Kept w w' (fun aF=>eG aF))∧aA (Below w0.heap.size w0 w'))
 case atStart=>exact ⟨(l0),(wrap64 (a2 - a1)),(wrap64 (a3 - a2)),bg,bg,H',⟨Nat.le_refl _⟩,⟨(aG ap)⟩,⟨jh⟩,⟨ay⟩⟩
 case round =>
 clear H'
 obtain ⟨a7,a5,a6,rfl,rfl,HA,iq,bQ,HK,HB⟩:=hrel
 cases gk with
 | zero=>exact absurd HA.out (by simp [uZ.l0])
 | succ k1 =>
 obtain ⟨H⟩:=HA
 simp only [uZ.l0] at H
 revert H;refine fJ (fun c6 H=>?_) fun c6 H=>?_
 ·have ai:=gZ c6
  have aN:=g_ c6
  clear c6
  obtain ⟨aT,A7,H⟩:=bd_ H
  obtain rfl:=cZ H
  obtain ⟨al,am,aq⟩:=Kd.dJ bQ.out
  subst aq
  go_wp2_with (first|((with_reducible refine bU 157 ?_);refine bV (some 57) rfl rfl func157 aB rfl #[.slice al a7.length am,ah (wrap64 (a2 - a5)),ah a2,ah a5,.func (.func 48) #[] #[]] rfl aW ?_;(with_reducible refine (pq.calls k1 (fun aF=>some aF=(.slice al a7.length am:Value).ownBlock) (.slice al a7.length am) a7 (wrap64 (a2 - a5)) a2 a5 a4 aT w0 _ ay (Kd.rU rfl bQ.out) A7.out).mono ?_);rintro e w9 ⟨rfl,a8,hb,hkp⟩;refine ⟨_,rfl,?_⟩;obtain ⟨bQ,HK,HB⟩:=p_ (Kd.vX rfl a8 (fun aF e_=>bQ.out.1 aF e_)) <| p_ (Kept.then_ (S:=(fun aF=>eG aF)) jh hkp (fun aF hs_=>(fun e_=>(bQ.out.1 aF e_.symm)) hs_)) <| a_ (hb);(try clear hb);(try clear hkp);(try clear a8)))
  first|go_end0|((try simp only [Exit.inBlock,Exit.then]);refine bodyPost_ret (results_none rfl _ _ _) rfl ?_)
  exact ⟨b_,(aG bQ),ay,jh⟩
 have ai:=gU c6
 have aN:=gV c6
 revert H;refine gI (fun af H=>?_) fun af H=>?_
 ·obtain ⟨ag,ar,H⟩:=bd_ H
  have H':=m_ H
  clear H
  obtain ⟨a9,aa,an⟩:=Kd.dJ bQ.out
  subst an
  go_wp2_with (first|((with_reducible refine bU 157 ?_);refine bV (some 31) rfl rfl func157 aB rfl #[.slice a9 a7.length aa,ah (wrap64 (a2 - a5)),ah a2,ah a6,.func (.func 48) #[] #[]] rfl aW ?_;(with_reducible refine (pq.calls k1 (fun aF=>some aF=(.slice a9 a7.length aa:Value).ownBlock) (.slice a9 a7.length aa) a7 (wrap64 (a2 - a5)) a2 a6 a4 ag w0 _ ay (Kd.rU rfl bQ.out) ar.out).mono ?_);rintro e av ⟨rfl,a8,hb,hkp⟩;refine ⟨_,rfl,?_⟩;obtain ⟨bQ,HK,HB⟩:=p_ (Kd.vX rfl a8 (fun aF e_=>bQ.out.1 aF e_)) <| p_ (Kept.then_ (S:=(fun aF=>eG aF)) jh hkp (fun aF hs_=>(fun e_=>(bQ.out.1 aF e_.symm)) hs_)) <| a_ (hb);(try clear hb);(try clear hkp);(try clear a8)))
  go_roundg k1
  case measure=>have:=iq.out;omega
  case rel=>exact ⟨(ag),(wrap64 (a5 - a6)),(a6),bg,bg,H',⟨nT⟩,⟨(aG bQ)⟩,⟨jh⟩,⟨ay⟩⟩
 obtain ⟨aP,bP,H⟩:=bd_ H
 have H':=m_ H
 clear H
 obtain ⟨ab,ac,ao⟩:=Kd.dJ bQ.out
 subst ao
 go_wp2_with (first|((with_reducible refine bU 157 ?_);refine bV (some 46) rfl rfl func157 aB rfl #[.slice ab a7.length ac,ah (wrap64 (a2 - a5)),ah (wrap64 ((wrap64 (a2+a6)) - a5)),ah a5,.func (.func 48) #[] #[]] rfl aW ?_;(with_reducible refine (pq.calls k1 (fun aF=>some aF=(.slice ab a7.length ac:Value).ownBlock) (.slice ab a7.length ac) a7 (wrap64 (a2 - a5)) (wrap64 ((wrap64 (a2+a6)) - a5)) a5 a4 aP w0 _ ay (Kd.rU rfl bQ.out) bP.out).mono ?_);rintro e aw ⟨rfl,a8,hb,hkp⟩;refine ⟨_,rfl,?_⟩;obtain ⟨bQ,HK,HB⟩:=p_ (Kd.vX rfl a8 (fun aF e_=>bQ.out.1 aF e_)) <| p_ (Kept.then_ (S:=(fun aF=>eG aF)) jh hkp (fun aF hs_=>(fun e_=>(bQ.out.1 aF e_.symm)) hs_)) <| a_ (hb);(try clear hb);(try clear hkp);(try clear a8)))
 go_roundg k1
 case measure=>have:=iq.out;omega
 case rel=>exact ⟨(aP),(a5),(wrap64 (a6 - a5)),bg,bg,H',⟨nT⟩,⟨(aG bQ)⟩,⟨jh⟩,⟨ay⟩⟩

end Go.Proofs.YthejdhjpbpamoaaGreatDoor.jM
