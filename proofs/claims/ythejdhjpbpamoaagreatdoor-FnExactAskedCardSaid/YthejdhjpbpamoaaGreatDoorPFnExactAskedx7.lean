/- Calls return what the Lean functions beside them compute. Conditions: each theorem's own. -/
import Derived.Test.YthejdhjpbpamoaaGreatDoorPkFnExactAsked
import Derived.Test.YthejdhjpbpamoaaGreatDoorPFnExactAskedx2
import Derived.Test.YthejdhjpbpamoaaGreatDoorPFnExactAskedx5
namespace Go.Proofs.YthejdhjpbpamoaaGreatDoor.pU
open Go.RowKit Go.Proofs.YthejdhjpbpamoaaGreatDoorW.jk Go.Proofs.YthejdhjpbpamoaaGreatDoorW.qI Go.Proofs.YthejdhjpbpamoaaGreatDoorW.vV Go.Proofs.Tryz
attribute [local go_sem] yN yR yQ yU yP yT yO yS
set_option linter.unusedVariables false
set_option maxHeartbeats 8000000
set_option maxRecDepth 100000
set_option linter.unusedSimpArgs false

def ru.l0:Nat→List (aF)→Int→Int→Int→Int→Option ((List (aF)))
 | 0,_,_,_,_,_=>none
 | k+1,x0,x1,x2,x3,a5=>if a5 < x3 then (if 0≤(wrap64 (x2+a5)) then (if (wrap64 (x2+a5)) < (x0.length:Int) then (if 0≤(wrap64 (x1+a5)) then (if (wrap64 (x1+a5)) < (x0.length:Int) then (ru.l0 k ((x0.set ((wrap64 (x1+a5)):Int).toNat (⟨(aB x0 (wrap64 (x2+a5))).f0,(aB x0 (wrap64 (x2+a5))).f1,(aB x0 (wrap64 (x2+a5))).f2⟩:aF)).set ((wrap64 (x2+a5)):Int).toNat (⟨(aB x0 (wrap64 (x1+a5))).f0,(aB x0 (wrap64 (x1+a5))).f1,(aB x0 (wrap64 (x1+a5))).f2⟩:aF)) x1 x2 x3 (wrap64 (a5+1))) else (none)) else (none)) else (none)) else (none)) else (some x0)
def ru.f (k:Nat) (l0:List (aF)) (a1:Int) (a2:Int) (a3:Int) (a4:Unit):Option ((List (aF))):=ru.l0 k l0 a1 a2 a3 0
def ru.T3:Bool × List (List Nat × List Nat):=(true,[([],[]),([],[]),([],[]),([1,2],[1,2]),([],[]),([],[]),([],[]),([5,6],[5,6]),([],[]),([],[]),([],[]),([9,10],[9,10]),([8,11],[8,11]),([12],[12]),([],[]),([],[]),([],[]),([15,16],[15,16]),([14,17],[14,17]),([18],[18]),([0,3,0,1,2,3,8,9,10,11,12,13,19],[0,3]),([20,13,0,1,2,3,8,9,10,11,12,13,19],[13,20]),([4,7,0,1,2,3,4,5,6,7,8,9,10,11,12,13,14,15,16,17,18,19,20,21],[4,7]),([22,19,21,0,1,2,3,4,5,6,7,8,9,10,11,12,13,14,15,16,17,18,19,20,21],[19,22])])
def ru.B3:List Nat:=[0,0,0,6,0,0,0,96,0,0,0,1536,3840,7936,0,0,0,98304,245760,507904,1048335,2096911,4194303,8388607]
theorem ru.calls (k:Nat) (dA:Nat→Prop) (gX:Value) (l0:List (aF)) (a1:Int) (a2:Int) (a3:Int) (a4:Unit) (r:List (aF)) (w0 w:World) (hB:Below w0.heap.size w0 w) (ho0:Kd.R aS 43 w w0.heap.size dA gX l0) (h:ru.f k l0 a1 a2 a3 a4=some r) :
  Calls Tryz.prog 157 #[gX,ah a1,ah a2,ah a3,.func (.func 48) #[] #[]] w fun e w'=>e=.returned (.tuple #[])∧Kd.R aS 43 w' w0.heap.size (fun ak=>(dA ak∨w.heap.size≤ak)) gX r∧Below w0.heap.size w0 w'∧Kept w w' (fun ak=>dA ak):=by
 have tX:=underlying43;have ch:=m_ (show Kd.R aS 43 w w0.heap.size (fun ak=>(dA ak∨w.heap.size≤ak)) gX l0 from Kd.bF ho0 (fun ak hk=>(.inl hk)));have HK:=m_ (Kept.refl w (fun ak=>dA ak));have HW0:=m_ hB.size;have HB:=m_ hB;clear hB;unfold ru.f at h
 have H:=h;clear h;have H':=m_ H;clear H;go_enter func157,ntmps157
 go_wp2
 go_loopg [10] k (fun kq v10 w'=>∃ (a5:List (aF)) (a7:Int),v10=ah a7∧aA (ru.l0 kq a5 a1 a2 a3 a7=some r)∧aA (kq≤k)∧aA (Kd.R aS 43 w' w0.heap.size (fun ak=>(dA ak∨w.heap.size≤ak)) gX a5)∧aA (Kept w w' (fun ak=>dA ak))∧aA (Below w0.heap.size w0 w'))
 case atStart=>exact ⟨(l0),(0),bC,H',⟨Nat.le_refl _⟩,⟨(aN ch)⟩,⟨iw⟩,⟨ay⟩⟩
 case round =>
 clear H';obtain ⟨a5,a7,rfl,HA,gG,bn,HK,HB⟩:=hrel;cases gk with
 | zero=>exact absurd HA.out (by simp [ru.l0])
 | succ k1 =>
 obtain ⟨H⟩:=HA;simp only [ru.l0] at H
 revert H;refine fB (fun bu H=>?_) fun bu H=>?_;rotate_left
 ·obtain rfl:=bQ H;go_wp2
  first|go_end0|((try simp only [Exit.inBlock,Exit.then]);refine bodyPost_ret (results_none rfl _ _ _) rfl ?_)
  exact ⟨bK,(aN bn),ay,iw⟩
 obtain ⟨je,Bg⟩:∃ mZ:Int,(wrap64 (a2+a7))=mZ:=⟨_,rfl⟩;replace H:(if 0≤(je) then (if (je) < (a5.length:Int) then (if 0≤(wrap64 (a1+a7)) then (if (wrap64 (a1+a7)) < (a5.length:Int) then (ru.l0 k1 ((a5.set ((wrap64 (a1+a7)):Int).toNat (⟨(aB a5 (je)).f0,(aB a5 (je)).f1,(aB a5 (je)).f2⟩:aF)).set ((je):Int).toNat (⟨(aB a5 (wrap64 (a1+a7))).f0,(aB a5 (wrap64 (a1+a7))).f1,(aB a5 (wrap64 (a1+a7))).f2⟩:aF)) a1 a2 a3 (wrap64 (a7+1))) else (none)) else (none)) else (none)) else (none))=some r:=by first|(rw [Bg] at H;exact H)|(simp only [Bg] at H ⊢;exact H)
 have aAL:(IntKind.i64.wrap (a2+a7))=je:=(aV _).trans Bg;obtain ⟨ci,H⟩:=gI H;obtain ⟨cj,H⟩:=gI H;obtain ⟨kK,Vw⟩:∃ mZ:Int,(wrap64 (a1+a7))=mZ:=⟨_,rfl⟩;replace H:(if 0≤(kK) then (if (kK) < (a5.length:Int) then (ru.l0 k1 ((a5.set ((kK):Int).toNat (⟨(aB a5 (je)).f0,(aB a5 (je)).f1,(aB a5 (je)).f2⟩:aF)).set ((je):Int).toNat (⟨(aB a5 (kK)).f0,(aB a5 (kK)).f1,(aB a5 (kK)).f2⟩:aF)) a1 a2 a3 (wrap64 (a7+1))) else (none)) else (none))=some r:=by first|(rw [Vw] at H;exact H)|(simp only [Vw] at H ⊢;exact H)
 have aAu:(IntKind.i64.wrap (a1+a7))=kK:=(aV _).trans Vw;obtain ⟨ce,H⟩:=gI H;obtain ⟨cg,H⟩:=gI H;obtain ⟨aO,al⟩:∃ y_:List (aF),y_=(a5.set ((kK):Int).toNat (⟨(aB a5 (je)).f0,(aB a5 (je)).f1,(aB a5 (je)).f2⟩:aF)):=⟨_,rfl⟩;rw [← al] at H;have b9:=m_ al;clear al;obtain ⟨ba,am⟩:∃ y_:List (aF),y_=(aO.set ((je):Int).toNat (⟨(aB a5 (kK)).f0,(aB a5 (kK)).f1,(aB a5 (kK)).f2⟩:aF)):=⟨_,rfl⟩;rw [← am] at H;have bb:=m_ am;clear am;have H':=m_ H;clear H;try go_wp2
 obtain ⟨bn,HK,HB⟩:=p_ (Kd.bH bn.out) <| p_ (Kept.drew HK.out) <| a_ (nZ HB.out);obtain ⟨ck,cl,bc⟩:=Kd.dN bn.out;(first|subst bc|(injection bc with eu iE eF;have iJ:=eu.symm;have iK:=eF.symm;clear eu iE eF;subst iJ;subst iK))
 have ar:0≤((je):Int):=aX aY;have aT:(je) < (a5.length:Int):=aX aY;obtain ⟨bd,bv,a8,a9,aa⟩:=jV (Kd.dn bn.out).2.2 (je) ar aT;cases bv;replace ar:=eq_true ar;replace aT:=eq_true aT;have av:0≤((kK):Int):=aX aY;have aw:(kK) < (a5.length:Int):=aX aY;obtain ⟨be,bw,ab,ac,ae⟩:=jV (Kd.dn bn.out).2.2 (kK) av aw;obtain rfl:bd=be:=(by injection bw);replace av:=eq_true av;replace aw:=eq_true aw;have bx:0≤((kK):Int):=aX aY;have bz:((kK):Int) < ((a5.length:Int):Int):=aX aY;obtain ⟨a6,cm,fA,dL,ca,cn,bh⟩:=Kd.xQ bn.out (by omega);(first|cases fA|(injection fA with jA sQ sO;(first|subst jA|(injection jA with jA;subst jA));subst sO;clear sQ))
 have aH:=m_ dL;have cc:=m_ bh;clear dL ca bh;have Gt:=m_ (show (dA a6∨w.heap.size≤a6) from (bn.out.1 _ rfl));(first|simp only [add_plain] at a8|skip)
 (first|simp only [add_plain] at a9|skip)
 (first|simp only [add_plain] at aa|skip)
 (first|simp only [add_plain] at ab|skip)
 (first|simp only [add_plain] at ac|skip)
 (first|simp only [add_plain] at ae|skip)
 obtain ⟨co,bi,bj,af,ag⟩:=Kd.nX bn.out z43 ((kK):Int) bx bz;obtain rfl:=og bj;have ax:World.cell? _ ⟨a6,((kK):Int).toNat * 3,none⟩=some (.string ((aB a5 (kK)).f0)):=af 0 _ rfl;have bD:World.cell? _ ⟨a6,((kK):Int).toNat * 3+1,none⟩=some (.bool ((aB a5 (kK)).f1)):=af 1 _ rfl;have az:World.cell? _ ⟨a6,((kK):Int).toNat * 3+2,none⟩=some (.string ((aB a5 (kK)).f2)):=af 2 _ rfl;have b0:World.frozen? _ ⟨a6,((kK):Int).toNat * 3,none⟩=false:=ag 0;have b1:World.frozen? _ ⟨a6,((kK):Int).toNat * 3+1,none⟩=false:=ag 1;have b2:World.frozen? _ ⟨a6,((kK):Int).toNat * 3+2,none⟩=false:=ag 2;clear bi af ag bj;replace bx:=eq_true bx;replace bz:=eq_true bz;obtain ⟨cp,an,bl,ao,bm⟩:=Kd.nX bn.out z43 ((kK):Int) (aX aY) (by have bI:((kK):Int) < ((a5.length:Int):Int):=aX aY;first|exact bI|(have e_:=(Kd.dn bn.out).1;omega)|simpa using bI);obtain rfl:=og bl;have QY:=(Kd.vW bn.out ((kK):Int) (aX aY) (by have bI:((kK):Int) < ((a5.length:Int):Int):=aX aY;first|exact bI|(have e_:=(Kd.dn bn.out).1;omega)|simpa using bI) (seg:=[.string ((aB a5 (je)).f0),.bool ((aB a5 (je)).f1),.string ((aB a5 (je)).f2)]) (j:=0) an ao (show 3≤3 from by decide) (x':=(⟨(aB a5 (je)).f0,(aB a5 (je)).f1,(aB a5 (je)).f2⟩:aF)) (qU _ _ _ (⟨(aB a5 (je)).f0,(aB a5 (je)).f1,(aB a5 (je)).f2⟩:aF) ) (fun _ hk=>hk)).1;rw [← b9.out] at QY;have Nw:=m_ QY;clear an ao bm bl QY;have br:0≤((je):Int):=aX aY;have bs:((je):Int) < ((a5.length:Int):Int):=aX aY;obtain ⟨cq,fG,bo,aK,ai⟩:=Kd.nX Nw.out z43 ((je):Int) br bs;obtain rfl:=og bo;have b3:World.cell? _ ⟨a6,((je):Int).toNat * 3,none⟩=some (.string ((aB aO (je)).f0)):=aK 0 _ rfl;have b4:World.cell? _ ⟨a6,((je):Int).toNat * 3+1,none⟩=some (.bool ((aB aO (je)).f1)):=aK 1 _ rfl;have b5:World.cell? _ ⟨a6,((je):Int).toNat * 3+2,none⟩=some (.string ((aB aO (je)).f2)):=aK 2 _ rfl;have b6:World.frozen? _ ⟨a6,((je):Int).toNat * 3,none⟩=false:=ai 0;have b7:World.frozen? _ ⟨a6,((je):Int).toNat * 3+1,none⟩=false:=ai 1;have b8:World.frozen? _ ⟨a6,((je):Int).toNat * 3+2,none⟩=false:=ai 2;clear fG aK ai bo;replace br:=eq_true br;replace bs:=eq_true bs;obtain ⟨cr,ap,bp,aq,bq⟩:=Kd.nX Nw.out z43 ((je):Int) (aX aY) (by have bI:((je):Int) < ((a5.length:Int):Int):=aX aY;first|exact bI|(have e_:=(Kd.dn bn.out).1;omega)|simpa using bI);obtain rfl:=og bp;have Em:=(Kd.vW Nw.out ((je):Int) (aX aY) (by have bI:((je):Int) < ((a5.length:Int):Int):=aX aY;first|exact bI|(have e_:=(Kd.dn bn.out).1;omega)|simpa using bI) (seg:=[.string ((aB a5 (kK)).f0),.bool ((aB a5 (kK)).f1),.string ((aB a5 (kK)).f2)]) (j:=0) ap aq (show 3≤3 from by decide) (x':=(⟨(aB a5 (kK)).f0,(aB a5 (kK)).f1,(aB a5 (kK)).f2⟩:aF)) (qU _ _ _ (⟨(aB a5 (kK)).f0,(aB a5 (kK)).f1,(aB a5 (kK)).f2⟩:aF) ) (fun _ hk=>hk)).1
 rw [← bb.out] at Em;have XE:=m_ Em;clear ap aq bq bp Em;refine iU (n:=24) (S:=fun w'=>NU w' a6 (((je)).toNat * 3) (.string ((aB a5 (je)).f0)) (.bool ((aB a5 (je)).f1)) (.string ((aB a5 (je)).f2)) <| NV w' a6 (((kK)).toNat * 3) (.string ((aB a5 (kK)).f0)) (.bool ((aB a5 (kK)).f1)) (.string ((aB a5 (kK)).f2))) (ds:=[21,23]) #[F_,F_,F_,F_,F_,F_,F_,F_,F_,F_,F_,F_,F_,F_,F_,F_,F_,F_,F_,F_,F_,F_,F_,F_] aC rfl rfl ⟨a8,a9,aa,ab,ac,ae⟩ (fun hH=>?_);refine kF (T:=ru.T3) (B:=ru.B3) aC aC (fun aP fK=>?_);generalize wr.drew=ct at bn HK HB cc Nw XE b0 b1 b2 b6 b7 b8 ax bD az b3 b4 b5 a8 a9 aa ab ac ae hH ⊢;refine dF 0 16 #[aj,F_,F_,F_,F_,F_,F_,F_,F_,F_,F_,F_,F_,F_,F_,F_,F_,F_,F_,F_,F_,F_,F_,F_] aP ?_;refine dF 1 17 #[aj,aj,F_,F_,F_,F_,F_,F_,F_,F_,F_,F_,F_,F_,F_,F_,F_,F_,F_,F_,F_,F_,F_,F_] aP ?_;refine dF 2 18 #[aj,aj,aj,F_,F_,F_,F_,F_,F_,F_,F_,F_,F_,F_,F_,F_,F_,F_,F_,F_,F_,F_,F_,F_] aP ?_;refine dF 3 19 #[aj,aj,aj,aj,F_,F_,F_,F_,F_,F_,F_,F_,F_,F_,F_,F_,F_,F_,F_,F_,F_,F_,F_,F_] aP ?_;refine dF 4 20 #[aj,aj,aj,aj,aj,F_,F_,F_,F_,F_,F_,F_,F_,F_,F_,F_,F_,F_,F_,F_,F_,F_,F_,F_] aP ?_;refine dF 5 21 #[aj,aj,aj,aj,aj,aj,F_,F_,F_,F_,F_,F_,F_,F_,F_,F_,F_,F_,F_,F_,F_,F_,F_,F_] aP ?_;refine dF 6 22 #[aj,aj,aj,aj,aj,aj,aj,F_,F_,F_,F_,F_,F_,F_,F_,F_,F_,F_,F_,F_,F_,F_,F_,F_] aP ?_;refine dF 7 23 #[aj,aj,aj,aj,aj,aj,aj,aj,F_,F_,F_,F_,F_,F_,F_,F_,F_,F_,F_,F_,F_,F_,F_,F_] aP ?_;refine dF 8 24 #[aj,aj,aj,aj,aj,aj,aj,aj,aj,F_,F_,F_,F_,F_,F_,F_,F_,F_,F_,F_,F_,F_,F_,F_] aP ?_;refine dF 9 25 #[aj,aj,aj,aj,aj,aj,aj,aj,aj,aj,F_,F_,F_,F_,F_,F_,F_,F_,F_,F_,F_,F_,F_,F_] aP ?_;refine dF 10 26 #[aj,aj,aj,aj,aj,aj,aj,aj,aj,aj,aj,F_,F_,F_,F_,F_,F_,F_,F_,F_,F_,F_,F_,F_] aP ?_;refine dF 11 27 #[aj,aj,aj,aj,aj,aj,aj,aj,aj,aj,aj,aj,F_,F_,F_,F_,F_,F_,F_,F_,F_,F_,F_,F_] aP ?_;refine dF 12 28 #[aj,aj,aj,aj,aj,aj,aj,aj,aj,aj,aj,aj,aj,F_,F_,F_,F_,F_,F_,F_,F_,F_,F_,F_] aP ?_;refine dF 14 30 #[aj,aj,aj,aj,aj,aj,aj,aj,aj,aj,aj,aj,aj,F_,aj,F_,F_,F_,F_,F_,F_,F_,F_,F_] aP ?_;refine dF 15 31 #[aj,aj,aj,aj,aj,aj,aj,aj,aj,aj,aj,aj,aj,F_,aj,aj,F_,F_,F_,F_,F_,F_,F_,F_] aP ?_;refine dF 16 32 #[aj,aj,aj,aj,aj,aj,aj,aj,aj,aj,aj,aj,aj,F_,aj,aj,aj,F_,F_,F_,F_,F_,F_,F_] aP ?_;refine dF 17 33 #[aj,aj,aj,aj,aj,aj,aj,aj,aj,aj,aj,aj,aj,F_,aj,aj,aj,aj,F_,F_,F_,F_,F_,F_] aP ?_;refine dF 18 34 #[aj,aj,aj,aj,aj,aj,aj,aj,aj,aj,aj,aj,aj,F_,aj,aj,aj,aj,aj,F_,F_,F_,F_,F_] aP ?_;refine j_ 13 29 #[aj,aj,aj,aj,aj,aj,aj,aj,aj,aj,aj,aj,aj,aj,aj,aj,aj,aj,aj,F_,F_,F_,F_,F_] aP fK hH ?_
 refine j_ 19 35 #[aj,aj,aj,aj,aj,aj,aj,aj,aj,aj,aj,aj,aj,aj,aj,aj,aj,aj,aj,aj,F_,F_,F_,F_] aP fK hH ?_;refine dF 20 36 #[aj,aj,aj,aj,aj,aj,aj,aj,aj,aj,aj,aj,aj,aj,aj,aj,aj,aj,aj,aj,aj,F_,F_,F_] aP ?_;refine VX (i:=21) (N:=none) #[aj,aj,aj,aj,aj,aj,aj,aj,aj,aj,aj,aj,aj,aj,aj,aj,aj,aj,aj,aj,aj,aj,F_,F_] rfl rfl (lG aP.out aC) (by decide) (fun K hK=>?_);refine jD (w1:=?_) (by rfl) rfl ?_ ?_;rotate_left
 ·go_simp
  rfl
 refine hK.out _ _ ?_;clear hK K;refine dF 22 37 #[aj,aj,aj,aj,aj,aj,aj,aj,aj,aj,aj,aj,aj,aj,aj,aj,aj,aj,aj,aj,aj,aj,aj,F_] aP ?_;refine VX (i:=23) (N:=none) #[aj,aj,aj,aj,aj,aj,aj,aj,aj,aj,aj,aj,aj,aj,aj,aj,aj,aj,aj,aj,aj,aj,aj,aj] rfl rfl (lG aP.out aC) (by decide) (fun K hK=>?_);refine jD (w1:=?_) (by rfl) rfl ?_ ?_;rotate_left
 ·obtain ⟨Sj,TJ,EX,wS,wU⟩:=Kd.nX bn.out z43 ((je):Int) (of_eq_true br) (of_eq_true bs);obtain rfl:=og EX;have SI:World.frozen? _ ⟨a6,((je):Int).toNat * 3,none⟩=false:=wU 0;have F8:World.cell? _ ⟨a6,((je):Int).toNat * 3,none⟩=some _:=wS 0 _ rfl;obtain ⟨_,SC⟩:=cell?_setCell_some (p:=⟨a6,((kK):Int).toNat * 3,none⟩) (x:=.string ((aB a5 (je)).f0)) F8;have SK:World.frozen? _ ⟨a6,((je):Int).toNat * 3+1,none⟩=false:=wU 1;have F9:World.cell? _ ⟨a6,((je):Int).toNat * 3+1,none⟩=some _:=wS 1 _ rfl;obtain ⟨_,ES⟩:=cell?_setCell_some (p:=⟨a6,((kK):Int).toNat * 3,none⟩) (x:=.string ((aB a5 (je)).f0)) F9;obtain ⟨_,SE⟩:=cell?_setCell_some (p:=⟨a6,((kK):Int).toNat * 3+1,none⟩) (x:=.bool ((aB a5 (je)).f1)) ES;have SL:World.frozen? _ ⟨a6,((je):Int).toNat * 3+2,none⟩=false:=wU 2;have Gf:World.cell? _ ⟨a6,((je):Int).toNat * 3+2,none⟩=some _:=wS 2 _ rfl;obtain ⟨_,ET⟩:=cell?_setCell_some (p:=⟨a6,((kK):Int).toNat * 3,none⟩) (x:=.string ((aB a5 (je)).f0)) Gf;obtain ⟨_,EU⟩:=cell?_setCell_some (p:=⟨a6,((kK):Int).toNat * 3+1,none⟩) (x:=.bool ((aB a5 (je)).f1)) ET;obtain ⟨_,SG⟩:=cell?_setCell_some (p:=⟨a6,((kK):Int).toNat * 3+2,none⟩) (x:=.string ((aB a5 (je)).f2)) EU;go_simp
  rfl
 refine hK.out _ _ ?_;clear hK K;refine jd (kC aP.out aC) ?_;try go_wp2
 go_roundg k1
 case measure=>have:=gG.out;omega
 case rel=>exact ⟨(ba),(wrap64 (a7+1)),bC,H',⟨oz⟩,⟨(aN XE)⟩,⟨(by repeat (first|(with_reducible first|exact HK.out|apply Kept.alloc|apply Kept.drewN|apply Kept.drew|refine Kept.setCell ?_ Gt.out _|refine Kept.setCell ?_ Gt.out _|refine Kept.setCell ?_ Gt.out _|refine Kept.setCell ?_ Gt.out _|refine Kept.setCell ?_ Gt.out _|refine Kept.setCell ?_ Gt.out _)|exact HK.out))⟩,⟨(by repeat (first|(with_reducible first|exact HB.out|apply sK|apply xB|apply nZ|refine jy ?_ aH.out|refine jy ?_ aH.out|refine jy ?_ aH.out|refine jy ?_ aH.out|refine jy ?_ aH.out|refine jy ?_ aH.out)|exact HB.out))⟩⟩

def wJ.l0:Nat→List (aF)→Int→Unit→Int→Int→Option ((List (aF)))
 | 0,_,_,_,_,_=>none
 | k+1,x0,x2,x4,a5,a6=>if a5=a6 then ((ru.f k x0 (wrap64 (x2 - a5)) x2 a5 x4).bind fun a7=>(some a7)) else (if a5 > a6 then ((ru.f k x0 (wrap64 (x2 - a5)) x2 a6 x4).bind fun a8=>(wJ.l0 k a8 x2 x4 (wrap64 (a5 - a6)) a6)) else ((ru.f k x0 (wrap64 (x2 - a5)) (wrap64 ((wrap64 (x2+a6)) - a5)) a5 x4).bind fun a9=>(wJ.l0 k a9 x2 x4 a5 (wrap64 (a6 - a5)))))
def wJ.f (k:Nat) (l0:List (aF)) (a1:Int) (a2:Int) (a3:Int) (a4:Unit):Option ((List (aF))):=wJ.l0 k l0 a2 a4 (wrap64 (a2 - a1)) (wrap64 (a3 - a2))
theorem wJ.calls (k:Nat) (dA:Nat→Prop) (gX:Value) (l0:List (aF)) (a1:Int) (a2:Int) (a3:Int) (a4:Unit) (r:List (aF)) (w0 w:World) (hB:Below w0.heap.size w0 w) (ho0:Kd.R aS 43 w w0.heap.size dA gX l0) (h:wJ.f k l0 a1 a2 a3 a4=some r) :
  Calls Tryz.prog 148 #[gX,ah a1,ah a2,ah a3,.func (.func 48) #[] #[]] w fun e w'=>e=.returned (.tuple #[])∧Kd.R aS 43 w' w0.heap.size (fun ak=>(dA ak∨w.heap.size≤ak)) gX r∧Below w0.heap.size w0 w'∧Kept w w' (fun ak=>dA ak):=by
 have ap:=m_ (show Kd.R aS 43 w w0.heap.size (fun ak=>(dA ak∨w.heap.size≤ak)) gX l0 from Kd.bF ho0 (fun ak hk=>(.inl hk)));have HK:=m_ (Kept.refl w (fun ak=>dA ak));have HW0:=m_ hB.size;have HB:=m_ hB;clear hB;unfold wJ.f at h
 have H:=h;clear h;have H':=m_ H;clear H;go_enter func148,ntmps148
 go_wp2
 go_loopg [10,11] k (fun kq v10 v11 w'=>∃ (a7:List (aF)) (a5:Int) (a6:Int),v10=ah a5∧v11=ah a6∧aA (wJ.l0 kq a7 a2 a4 a5 a6=some r)∧aA (kq≤k)∧aA (Kd.R aS 43 w' w0.heap.size (fun ak=>(dA ak∨w.heap.size≤ak)) gX a7)∧aA (Kept w w' (fun ak=>dA ak))∧aA (Below w0.heap.size w0 w'))
 case atStart=>exact ⟨(l0),(wrap64 (a2 - a1)),(wrap64 (a3 - a2)),bC,bC,H',⟨Nat.le_refl _⟩,⟨(aN ap)⟩,⟨iw⟩,⟨ay⟩⟩
 case round =>
 clear H';obtain ⟨a7,a5,a6,rfl,rfl,HA,gG,bn,HK,HB⟩:=hrel;cases gk with
 | zero=>exact absurd HA.out (by simp [wJ.l0])
 | succ k1 =>
 obtain ⟨H⟩:=HA;simp only [wJ.l0] at H
 revert H;refine eU (fun c6 H=>?_) fun c6 H=>?_
 ·have ai:=fU c6;have aH:=fV c6;clear c6;obtain ⟨aO,A7,H⟩:=bd_ H;obtain rfl:=bQ H;obtain ⟨al,am,aq⟩:=Kd.dN bn.out;subst aq;go_wp2_with (first|((with_reducible refine cu 157 ?_);refine cO (some 57) rfl rfl func157 aC rfl #[.slice al a7.length am,ah (wrap64 (a2 - a5)),ah a2,ah a5,.func (.func 48) #[] #[]] rfl bJ ?_;(with_reducible refine (ru.calls k1 (fun ak=>some ak=(.slice al a7.length am:Value).ownBlock) (.slice al a7.length am) a7 (wrap64 (a2 - a5)) a2 a5 a4 aO w0 _ ay (Kd.rH rfl bn.out) A7.out).mono ?_);rintro e w9 ⟨rfl,a8,hb,hkp⟩;refine ⟨_,rfl,?_⟩;obtain ⟨bn,HK,HB⟩:=p_ (Kd.uV rfl a8 (fun ak e_=>bn.out.1 ak e_)) <| p_ (Kept.then_ (S:=(fun ak=>dA ak)) iw hkp (fun ak hs_=>(fun e_=>(bn.out.1 ak e_.symm)) hs_)) <| a_ (hb);(try clear hb);(try clear hkp);(try clear a8)))
  first|go_end0|((try simp only [Exit.inBlock,Exit.then]);refine bodyPost_ret (results_none rfl _ _ _) rfl ?_)
  exact ⟨bK,(aN bn),ay,iw⟩
 have ai:=fZ c6;have aH:=f_ c6;revert H;refine fB (fun af H=>?_) fun af H=>?_
 ·obtain ⟨ag,ar,H⟩:=bd_ H;have H':=m_ H;clear H;obtain ⟨a9,aa,an⟩:=Kd.dN bn.out;subst an;go_wp2_with (first|((with_reducible refine cu 157 ?_);refine cO (some 31) rfl rfl func157 aC rfl #[.slice a9 a7.length aa,ah (wrap64 (a2 - a5)),ah a2,ah a6,.func (.func 48) #[] #[]] rfl bJ ?_;(with_reducible refine (ru.calls k1 (fun ak=>some ak=(.slice a9 a7.length aa:Value).ownBlock) (.slice a9 a7.length aa) a7 (wrap64 (a2 - a5)) a2 a6 a4 ag w0 _ ay (Kd.rH rfl bn.out) ar.out).mono ?_);rintro e av ⟨rfl,a8,hb,hkp⟩;refine ⟨_,rfl,?_⟩;obtain ⟨bn,HK,HB⟩:=p_ (Kd.uV rfl a8 (fun ak e_=>bn.out.1 ak e_)) <| p_ (Kept.then_ (S:=(fun ak=>dA ak)) iw hkp (fun ak hs_=>(fun e_=>(bn.out.1 ak e_.symm)) hs_)) <| a_ (hb);(try clear hb);(try clear hkp);(try clear a8)))
  go_roundg k1
  case measure=>have:=gG.out;omega
  case rel=>exact ⟨(ag),(wrap64 (a5 - a6)),(a6),bC,bC,H',⟨oz⟩,⟨(aN bn)⟩,⟨iw⟩,⟨ay⟩⟩
 obtain ⟨aK,aT,H⟩:=bd_ H;have H':=m_ H;clear H;obtain ⟨ab,ac,ao⟩:=Kd.dN bn.out;subst ao;go_wp2_with (first|((with_reducible refine cu 157 ?_);refine cO (some 46) rfl rfl func157 aC rfl #[.slice ab a7.length ac,ah (wrap64 (a2 - a5)),ah (wrap64 ((wrap64 (a2+a6)) - a5)),ah a5,.func (.func 48) #[] #[]] rfl bJ ?_;(with_reducible refine (ru.calls k1 (fun ak=>some ak=(.slice ab a7.length ac:Value).ownBlock) (.slice ab a7.length ac) a7 (wrap64 (a2 - a5)) (wrap64 ((wrap64 (a2+a6)) - a5)) a5 a4 aK w0 _ ay (Kd.rH rfl bn.out) aT.out).mono ?_);rintro e aw ⟨rfl,a8,hb,hkp⟩;refine ⟨_,rfl,?_⟩;obtain ⟨bn,HK,HB⟩:=p_ (Kd.uV rfl a8 (fun ak e_=>bn.out.1 ak e_)) <| p_ (Kept.then_ (S:=(fun ak=>dA ak)) iw hkp (fun ak hs_=>(fun e_=>(bn.out.1 ak e_.symm)) hs_)) <| a_ (hb);(try clear hb);(try clear hkp);(try clear a8)))
 go_roundg k1
 case measure=>have:=gG.out;omega
 case rel=>exact ⟨(aK),(a5),(wrap64 (a6 - a5)),bC,bC,H',⟨oz⟩,⟨(aN bn)⟩,⟨iw⟩,⟨ay⟩⟩

mutual
def dS.l0:Nat→List (aF)→Int→Int→Int→Option ((List (aF)))
 | 0,_,_,_,_=>none
 | k+1,x0,x1,a5,a6=>if a5 < a6 then (if 0≤(wrap64 ((IntKind.u64.wrap (wrap64 (a5+a6))) / 2)) then (if (wrap64 ((IntKind.u64.wrap (wrap64 (a5+a6))) / 2)) < (x0.length:Int) then (if 0≤x1 then (if x1 < (x0.length:Int) then ((vg.f ((aB x0 (wrap64 ((IntKind.u64.wrap (wrap64 (a5+a6))) / 2))).f0) ((aB x0 (wrap64 ((IntKind.u64.wrap (wrap64 (a5+a6))) / 2))).f1) ((aB x0 (wrap64 ((IntKind.u64.wrap (wrap64 (a5+a6))) / 2))).f2) ((aB x0 x1).f0) ((aB x0 x1).f1) ((aB x0 x1).f2)).bind fun a7=>(if a7 < 0 then (dS.l0 k x0 x1 (wrap64 ((wrap64 ((IntKind.u64.wrap (wrap64 (a5+a6))) / 2))+1)) a6) else (dS.l0 k x0 x1 a5 (wrap64 ((IntKind.u64.wrap (wrap64 (a5+a6))) / 2))))) else (none)) else (none)) else (none)) else (none)) else (dS.l1 k x0 a5 x1)
def dS.l1:Nat→List (aF)→Int→Int→Option ((List (aF)))
 | 0,_,_,_=>none
 | k+1,x0,a6,a5=>if a5 < (wrap64 (a6 - 1)) then (if 0≤(wrap64 (a5+1)) then (if (wrap64 (a5+1)) < (x0.length:Int) then (if 0≤a5 then (if a5 < (x0.length:Int) then (dS.l1 k ((x0.set (a5:Int).toNat (⟨(aB x0 (wrap64 (a5+1))).f0,(aB x0 (wrap64 (a5+1))).f1,(aB x0 (wrap64 (a5+1))).f2⟩:aF)).set ((wrap64 (a5+1)):Int).toNat (⟨(aB x0 a5).f0,(aB x0 a5).f1,(aB x0 a5).f2⟩:aF)) a6 (wrap64 (a5+1))) else (none)) else (none)) else (none)) else (none)) else (some x0)
def dS.l2:Nat→List (aF)→Int→Int→Int→Option ((List (aF)))
 | 0,_,_,_,_=>none
 | k+1,x0,x2,a5,a6=>if a5 < a6 then (if 0≤x2 then (if x2 < (x0.length:Int) then (if 0≤(wrap64 ((IntKind.u64.wrap (wrap64 (a5+a6))) / 2)) then (if (wrap64 ((IntKind.u64.wrap (wrap64 (a5+a6))) / 2)) < (x0.length:Int) then ((vg.f ((aB x0 x2).f0) ((aB x0 x2).f1) ((aB x0 x2).f2) ((aB x0 (wrap64 ((IntKind.u64.wrap (wrap64 (a5+a6))) / 2))).f0) ((aB x0 (wrap64 ((IntKind.u64.wrap (wrap64 (a5+a6))) / 2))).f1) ((aB x0 (wrap64 ((IntKind.u64.wrap (wrap64 (a5+a6))) / 2))).f2)).bind fun a7=>(if a7 < 0 then (dS.l2 k x0 x2 a5 (wrap64 ((IntKind.u64.wrap (wrap64 (a5+a6))) / 2))) else (dS.l2 k x0 x2 (wrap64 ((wrap64 ((IntKind.u64.wrap (wrap64 (a5+a6))) / 2))+1)) a6))) else (none)) else (none)) else (none)) else (none)) else (dS.l3 k x0 a5 x2)
def dS.l3:Nat→List (aF)→Int→Int→Option ((List (aF)))
 | 0,_,_,_=>none
 | k+1,x0,a6,a5=>if a5 > a6 then (if 0≤(wrap64 (a5 - 1)) then (if (wrap64 (a5 - 1)) < (x0.length:Int) then (if 0≤a5 then (if a5 < (x0.length:Int) then (dS.l3 k ((x0.set (a5:Int).toNat (⟨(aB x0 (wrap64 (a5 - 1))).f0,(aB x0 (wrap64 (a5 - 1))).f1,(aB x0 (wrap64 (a5 - 1))).f2⟩:aF)).set ((wrap64 (a5 - 1)):Int).toNat (⟨(aB x0 a5).f0,(aB x0 a5).f1,(aB x0 a5).f2⟩:aF)) a6 (wrap64 (a5 - 1))) else (none)) else (none)) else (none)) else (none)) else (some x0)
def dS.j4:Nat→List (aF)→Int→Int→Int→Unit→Int→Int→Int→Int→Option ((List (aF)))
 | 0,_,_,_,_,_,_,_,_,_=>none
 | k+1,x0,x1,x2,x3,x4,a6,a5,a7,a8=>dS.l4 k x0 x1 x2 x3 x4 a6 a5 a7 a8 (wrap64 (a5 - 1))
def dS.l4:Nat→List (aF)→Int→Int→Int→Unit→Int→Int→Int→Int→Int→Option ((List (aF)))
 | 0,_,_,_,_,_,_,_,_,_,_=>none
 | k+1,x0,x1,x2,x3,x4,a9,a8,a5,a6,a7=>if a5 < a6 then (if 0≤(wrap64 (a7 - (wrap64 ((IntKind.u64.wrap (wrap64 (a5+a6))) / 2)))) then (if (wrap64 (a7 - (wrap64 ((IntKind.u64.wrap (wrap64 (a5+a6))) / 2)))) < (x0.length:Int) then (if 0≤(wrap64 ((IntKind.u64.wrap (wrap64 (a5+a6))) / 2)) then (if (wrap64 ((IntKind.u64.wrap (wrap64 (a5+a6))) / 2)) < (x0.length:Int) then ((vg.f ((aB x0 (wrap64 (a7 - (wrap64 ((IntKind.u64.wrap (wrap64 (a5+a6))) / 2))))).f0) ((aB x0 (wrap64 (a7 - (wrap64 ((IntKind.u64.wrap (wrap64 (a5+a6))) / 2))))).f1) ((aB x0 (wrap64 (a7 - (wrap64 ((IntKind.u64.wrap (wrap64 (a5+a6))) / 2))))).f2) ((aB x0 (wrap64 ((IntKind.u64.wrap (wrap64 (a5+a6))) / 2))).f0) ((aB x0 (wrap64 ((IntKind.u64.wrap (wrap64 (a5+a6))) / 2))).f1) ((aB x0 (wrap64 ((IntKind.u64.wrap (wrap64 (a5+a6))) / 2))).f2)).bind fun aa=>(if aa < 0 then (dS.l4 k x0 x1 x2 x3 x4 a9 a8 a5 (wrap64 ((IntKind.u64.wrap (wrap64 (a5+a6))) / 2)) a7) else (dS.l4 k x0 x1 x2 x3 x4 a9 a8 (wrap64 ((wrap64 ((IntKind.u64.wrap (wrap64 (a5+a6))) / 2))+1)) a6 a7))) else (none)) else (none)) else (none)) else (none)) else (if a5 < x2 then (dS.j6 k x0 x1 x2 x3 x4 a9 a5 (wrap64 (a8 - a5)) (decide (x2 < (wrap64 (a8 - a5))))) else (dS.j6 k x0 x1 x2 x3 x4 a9 a5 (wrap64 (a8 - a5)) false))
def dS.j6:Nat→List (aF)→Int→Int→Int→Unit→Int→Int→Int→Bool→Option ((List (aF)))
 | 0,_,_,_,_,_,_,_,_,_=>none
 | k+1,x0,x1,x2,x3,x4,a9,a5,a6,a7=>if a7=true then ((wJ.f k x0 a5 x2 a6 x4).bind fun a8=>(dS.j7 k a8 x1 x3 x4 a9 a5 a6)) else (dS.j7 k x0 x1 x3 x4 a9 a5 a6)
def dS.j7:Nat→List (aF)→Int→Int→Unit→Int→Int→Int→Option ((List (aF)))
 | 0,_,_,_,_,_,_,_=>none
 | k+1,x0,x1,x3,x4,a6,a5,a7=>if x1 < a5 then (dS.j8 k x0 x1 x3 x4 a6 a5 a7 (decide (a5 < a6))) else (dS.j8 k x0 x1 x3 x4 a6 a5 a7 false)
def dS.j8:Nat→List (aF)→Int→Int→Unit→Int→Int→Int→Bool→Option ((List (aF)))
 | 0,_,_,_,_,_,_,_,_=>none
 | k+1,x0,x1,x3,x4,a7,ab,a6,a8=>if a8=true then ((dS.f k x0 x1 ab a7 x4).bind fun a5=>(if a7 < a6 then (if a6 < x3 then ((dS.f k a5 a7 a6 x3 x4).bind fun a9=>(some a9)) else (some a5)) else (some a5))) else (if a7 < a6 then (if a6 < x3 then ((dS.f k x0 a7 a6 x3 x4).bind fun aa=>(some aa)) else (some x0)) else (some x0))
def dS.f:Nat→List (aF)→Int→Int→Int→Unit→Option ((List (aF)))
 | 0,_,_,_,_,_=>none
 | k+1,l0,a1,a2,a3,a4=>if (wrap64 (a2 - a1))=1 then (dS.l0 k l0 a1 a2 a3) else (if (wrap64 (a3 - a2))=1 then (dS.l2 k l0 a2 a1 a2) else (if a2 > (wrap64 ((IntKind.u64.wrap (wrap64 (a1+a3))) / 2)) then (dS.j4 k l0 a1 a2 a3 a4 (wrap64 ((IntKind.u64.wrap (wrap64 (a1+a3))) / 2)) (wrap64 ((wrap64 ((IntKind.u64.wrap (wrap64 (a1+a3))) / 2))+a2)) (wrap64 ((wrap64 ((wrap64 ((IntKind.u64.wrap (wrap64 (a1+a3))) / 2))+a2)) - a3)) (wrap64 ((IntKind.u64.wrap (wrap64 (a1+a3))) / 2))) else (dS.j4 k l0 a1 a2 a3 a4 (wrap64 ((IntKind.u64.wrap (wrap64 (a1+a3))) / 2)) (wrap64 ((wrap64 ((IntKind.u64.wrap (wrap64 (a1+a3))) / 2))+a2)) a1 a2)))
end
def dS.T5:Bool × List (List Nat × List Nat):=(true,[([],[]),([],[]),([],[]),([1,2],[1,2]),([3],[3]),([],[]),([],[]),([5,6],[5,6]),([7],[7]),([0,4,8],[0,4,8]),([9],[9])])
def dS.B5:List Nat:=[0,0,0,6,14,0,0,96,224,511,1023]
def dS.T11:Bool × List (List Nat × List Nat):=(true,[([],[]),([],[]),([],[]),([],[]),([3],[3]),([],[]),([],[]),([6],[6]),([5,7],[5,7]),([8],[8]),([],[]),([],[]),([10,11],[10,11]),([12],[12]),([0,1,0,1,5,6,7,8,9,13],[0,1]),([14,9,0,1,5,6,7,8,9,13],[9,14]),([2,4,0,1,2,3,4,5,6,7,8,9,10,11,12,13,14,15],[2,4]),([16,13,15,0,1,2,3,4,5,6,7,8,9,10,11,12,13,14,15],[13,16])])
def dS.B11:List Nat:=[0,0,0,0,8,0,0,64,224,480,0,0,3072,7168,16355,32739,65535,131071]
def dS.afg:Bool × List (List Nat × List Nat):=(true,[([],[]),([],[]),([],[]),([1,2],[1,2]),([3],[3]),([],[]),([],[]),([5,6],[5,6]),([7],[7]),([0,4,8],[0,4,8]),([9],[9]),([10],[10])])
def dS.aei:List Nat:=[0,0,0,6,14,0,0,96,224,511,1023,2047]
def dS.afi:Bool × List (List Nat × List Nat):=(true,[([],[]),([],[]),([],[]),([],[]),([3],[3]),([],[]),([],[]),([6],[6]),([5,7],[5,7]),([8],[8]),([],[]),([],[]),([10,11],[10,11]),([12],[12]),([0,1,0,1,5,6,7,8,9,13],[0,1]),([14,9,0,1,5,6,7,8,9,13],[9,14]),([2,4,0,1,2,3,4,5,6,7,8,9,10,11,12,13,14,15],[2,4]),([16,13,15,0,1,2,3,4,5,6,7,8,9,10,11,12,13,14,15],[13,16])])
def dS.ael:List Nat:=[0,0,0,0,8,0,0,64,224,480,0,0,3072,7168,16355,32739,65535,131071]
def dS.Rw:Bool × List (List Nat × List Nat):=(true,[([],[]),([],[]),([],[]),([],[]),([2,3],[2,3]),([1,4],[1,4]),([5],[5]),([],[]),([],[]),([7,8],[7,8]),([9],[9]),([0,6,10],[0,6,10]),([11],[11]),([12],[12])])
def dS.QN:List Nat:=[0,0,0,0,12,30,62,0,0,384,896,2047,4095,8191]
theorem dS.calls (k:Nat):∀ (dA:Nat→Prop) (gX:Value) (l0:List (aF)) (a1:Int) (a2:Int) (a3:Int) (a4:Unit) (r:List (aF)) (w0 w:World) (hB:Below w0.heap.size w0 w) (ho0:Kd.R aS 43 w w0.heap.size dA gX l0) (h:dS.f k l0 a1 a2 a3 a4=some r),
  Calls Tryz.prog 133 #[gX,ah a1,ah a2,ah a3,.func (.func 48) #[] #[]] w fun e w'=>e=.returned (.tuple #[])∧Kd.R aS 43 w' w0.heap.size (fun ak=>(dA ak∨w.heap.size≤ak)) gX r∧Below w0.heap.size w0 w'∧Kept w w' (fun ak=>dA ak):=by
 induction k using Nat.strongRecOn with
 | _ k ih =>
 intro dA gX l0 a1 a2 a3 a4 r w0 w hB ho0 h;cases k with
 | zero=>exact absurd h (by simp [dS.f])
 | succ k =>
 simp only [dS.f] at h
 have tX:=underlying43;have ld:=m_ (show Kd.R aS 43 w w0.heap.size (fun ak=>(dA ak∨w.heap.size≤ak)) gX l0 from Kd.bF ho0 (fun ak hk=>(.inl hk)));have HK:=m_ (Kept.refl w (fun ak=>dA ak));have HW0:=m_ hB.size;have HB:=m_ hB;clear hB;have H:=h;clear h;revert H;refine eU (fun c6 H=>?_) fun c6 H=>?_
 ·have fE:=fU c6;have cv:=fV c6;clear c6;have H':=m_ H;clear H;go_enter func133,ntmps133
  go_wp2
  go_loopg [10,11] k (fun kq v10 v11 w'=>∃ (b4:Int) (bw:Int),v10=ah b4∧v11=ah bw∧aA (dS.l0 kq l0 a1 b4 bw=some r)∧aA (kq≤k)∧aA (Kd.R aS 43 w' w0.heap.size (fun ak=>(dA ak∨w.heap.size≤ak)) gX l0)∧aA (Kept w w' (fun ak=>dA ak))∧aA (Below w0.heap.size w0 w'))
  case atStart=>exact ⟨(a2),(a3),bC,bC,H',⟨Nat.le_refl _⟩,⟨(aN ld)⟩,⟨iw⟩,⟨ay⟩⟩
  case round=>as_aux_lemma =>
   clear H';try clear c6;try clear fE;try clear cv
   obtain ⟨b4,bw,rfl,rfl,HA,gG,bn,HK,HB⟩:=hrel;cases gk with
   | zero=>exact absurd HA.out (by simp [dS.l0])
   | succ k1 =>
   obtain ⟨H⟩:=HA;simp only [dS.l0] at H
   revert H;refine fB (fun d6 H=>?_) fun d6 H=>?_
   ·obtain ⟨jo,sW⟩:∃ mZ:Int,(wrap64 ((IntKind.u64.wrap (wrap64 (b4+bw))) / 2))=mZ:=⟨_,rfl⟩;replace H:(if 0≤(jo) then (if (jo) < (l0.length:Int) then (if 0≤a1 then (if a1 < (l0.length:Int) then ((vg.f ((aB l0 (jo)).f0) ((aB l0 (jo)).f1) ((aB l0 (jo)).f2) ((aB l0 a1).f0) ((aB l0 a1).f1) ((aB l0 a1).f2)).bind fun fc=>(if fc < 0 then (dS.l0 k1 l0 a1 (wrap64 ((jo)+1)) bw) else (dS.l0 k1 l0 a1 b4 jo))) else (none)) else (none)) else (none)) else (none))=some r:=by first|(rw [sW] at H;exact H)|(simp only [sW] at H ⊢;exact H)
    have Pm:(IntKind.i64.wrap ((IntKind.u64.wrap (wrap64 (b4+bw))) / 2))=jo:=(aV _).trans sW;obtain ⟨dg,H⟩:=gI H;obtain ⟨bx,H⟩:=gI H;obtain ⟨bz,H⟩:=gI H;obtain ⟨ca,H⟩:=gI H;obtain ⟨fc,m8,H⟩:=bd_ H;have ie:=m_ H;clear H;try go_wp2
    obtain ⟨bn,HK,HB⟩:=p_ (Kd.bH bn.out) <| p_ (Kept.drew HK.out) <| a_ (nZ HB.out);obtain ⟨m9,ma,Ah⟩:=Kd.dN bn.out;(first|subst Ah|(injection Ah with eu iE eF;have iJ:=eu.symm;have iK:=eF.symm;clear eu iE eF;subst iJ;subst iK))
    have ck:0≤((jo):Int):=aX aY;have cl:(jo) < (l0.length:Int):=aX aY;obtain ⟨b7,ll,ac,ae,af⟩:=jV (Kd.dn bn.out).2.2 (jo) ck cl;cases ll;replace ck:=eq_true ck;replace cl:=eq_true cl;have cm:0≤(a1:Int):=aX aY;have cn:a1 < (l0.length:Int):=aX aY;obtain ⟨ii,lm,ag,aK,ai⟩:=jV (Kd.dn bn.out).2.2 a1 cm cn;obtain rfl:b7=ii:=(by injection lm);replace cm:=eq_true cm;replace cn:=eq_true cn;refine iU (n:=11) (S:=fun w'=>Kq w' (b7.add (((jo)).toNat * 3)) (.string ((aB l0 (jo)).f0)) (.bool ((aB l0 (jo)).f1)) (.string ((aB l0 (jo)).f2)) <| uS w' (b7.add ((a1).toNat * 3)) (.string ((aB l0 a1).f0)) (.bool ((aB l0 a1).f1)) (.string ((aB l0 a1).f2))) (ds:=[]) EK aC rfl rfl ⟨ac,ae,af,ag,aK,ai⟩ (fun hH=>?_);refine kF (T:=dS.T5) (B:=dS.B5) aC aC (fun aP fK=>?_);generalize wr.drew=n7 at bn HK HB ac ae af ag aK ai hH ⊢;refine bM 0 ?_;refine dF 1 41 #[aj,aj,F_,F_,F_,F_,F_,F_,F_,F_,F_] aP ?_;refine dF 2 42 #[aj,aj,aj,F_,F_,F_,F_,F_,F_,F_,F_] aP ?_;refine bM 3 ?_;refine dF 5 45 #[aj,aj,aj,aj,F_,aj,F_,F_,F_,F_,F_] aP ?_;refine dF 6 46 #[aj,aj,aj,aj,F_,aj,aj,F_,F_,F_,F_] aP ?_;refine dF 7 47 #[aj,aj,aj,aj,F_,aj,aj,aj,F_,F_,F_] aP ?_;refine kE 4 hH ?_;refine kE 8 hH ?_;refine oH 9 (fun K hK=>?_);refine Ot func48 aC rfl #[.agg #[.string ((aB l0 (jo)).f0),.bool ((aB l0 (jo)).f1),.string ((aB l0 (jo)).f2)],.agg #[.string ((aB l0 a1).f0),.bool ((aB l0 a1).f1),.string ((aB l0 a1).f2)]] (by rfl) rfl rfl (by rfl) (by (try simp only [List.map_toArray,List.map_cons,List.map_nil]);first|done|(simp only [sW];rfl)|rfl|(simp only [List.length_drop,List.length_take];rfl)) ?_
    with_reducible refine (vg.calls ((aB l0 (jo)).f0) ((aB l0 (jo)).f1) ((aB l0 (jo)).f2) ((aB l0 a1).f0) ((aB l0 a1).f1) ((aB l0 a1).f2) fc _ m8.out).mono ?_
    rintro e n8 ⟨rfl,hb⟩;have Eo:=(hb.cell (World.block_lt_of_cell? _ _ (hH.1))).trans (hH.1);have Ep:=(hb.cell (World.block_lt_of_cell? _ _ (hH.2.1))).trans (hH.2.1);have Es:=(hb.cell (World.block_lt_of_cell? _ _ (hH.2.2.1))).trans (hH.2.2.1);have Et:=(hb.cell (World.block_lt_of_cell? _ _ (hH.2.2.2.1))).trans (hH.2.2.2.1);have Eu:=(hb.cell (World.block_lt_of_cell? _ _ (hH.2.2.2.2.1))).trans (hH.2.2.2.2.1);have Ew:=(hb.cell (World.block_lt_of_cell? _ _ (hH.2.2.2.2.2))).trans (hH.2.2.2.2.2);refine ⟨_,rfl,?_⟩;obtain ⟨bn,HK,HB⟩:=p_ (Kd.bG (aN bn) hb) <| p_ (Kept.below (S:=(fun ak=>dA ak)) iw hb) <| a_ (dV ay hb);(try clear hb)
    refine hK.out _ _ ⟨Eo,Ep,Es,Et,Eu,Ew⟩ (fun hH=>?_);clear hK K;refine gY (some 49) ?_;refine bM 10 ?_;refine jd (kC aP.out aC) ?_;go_upto_if 50 with (fail)
    (try clear ac ae af)
    (try clear ag aK ai)
    obtain ⟨H⟩:=ie;revert H;refine fB (fun b5 H=>?_) fun b5 H=>?_;rotate_left
    ·try simp only [aV,aZ,b5]
     have H':=m_ H;clear H;go_wp2
     go_roundg k1
     case measure=>have:=gG.out;omega
     case rel=>exact ⟨(b4),(jo),bC,(by first|rfl|(simp;done)|(simp only [← sW] <;> (first|rfl|simp))|(simp [*];done)),H',⟨oz⟩,⟨(aN bn)⟩,⟨iw⟩,⟨ay⟩⟩
    try simp only [aV,aZ,b5]
    have H':=m_ H;clear H;go_wp2
    go_roundg k1
    case measure=>have:=gG.out;omega
    case rel=>exact ⟨(wrap64 ((jo)+1)),(bw),(by first|rfl|(simp;done)|(simp only [← sW] <;> (first|rfl|simp))|(simp [*];done)),bC,H',⟨oz⟩,⟨(aN bn)⟩,⟨iw⟩,⟨ay⟩⟩
   have H':=m_ H;clear H;go_wp2
   go_loopg [13] k1 (fun kq v13 w'=>∃ (a5:List (aF)) (a6:Int),v13=ah a6∧aA (dS.l1 kq a5 b4 a6=some r)∧aA (kq≤k1)∧aA (Kd.R aS 43 w' w0.heap.size (fun ak=>(dA ak∨w.heap.size≤ak)) gX a5)∧aA (Kept w w' (fun ak=>dA ak))∧aA (Below w0.heap.size w0 w'))
   case atStart=>exact ⟨(l0),(a1),bC,H',⟨Nat.le_refl _⟩,⟨(aN bn)⟩,⟨iw⟩,⟨ay⟩⟩
   case round=>as_aux_lemma =>
    clear H';try clear c7;try clear d6
    obtain ⟨a5,a6,rfl,HA,kS,bn,HK,HB⟩:=hrel;cases gk with
    | zero=>exact absurd HA.out (by simp [dS.l1])
    | succ k2 =>
    obtain ⟨H⟩:=HA;simp only [dS.l1] at H
    revert H;refine fB (fun cc H=>?_) fun cc H=>?_;rotate_left
    ·obtain rfl:=bQ H;go_wp2
     first|go_end0|((try simp only [Exit.inBlock,Exit.then]);refine bodyPost_ret (results_none rfl _ _ _) rfl ?_)
     exact ⟨bK,(aN bn),ay,iw⟩
    obtain ⟨jB,O_⟩:∃ mZ:Int,(wrap64 (a6+1))=mZ:=⟨_,rfl⟩;replace H:(if 0≤(jB) then (if (jB) < (a5.length:Int) then (if 0≤a6 then (if a6 < (a5.length:Int) then (dS.l1 k2 ((a5.set (a6:Int).toNat (⟨(aB a5 (jB)).f0,(aB a5 (jB)).f1,(aB a5 (jB)).f2⟩:aF)).set ((jB):Int).toNat (⟨(aB a5 a6).f0,(aB a5 a6).f1,(aB a5 a6).f2⟩:aF)) b4 jB) else (none)) else (none)) else (none)) else (none))=some r:=by first|(rw [O_] at H;exact H)|(simp only [O_] at H ⊢;exact H)
    have aAw:(IntKind.i64.wrap (a6+1))=jB:=(aV _).trans O_;obtain ⟨co,H⟩:=gI H;obtain ⟨cp,H⟩:=gI H;obtain ⟨cq,H⟩:=gI H;obtain ⟨cr,H⟩:=gI H;obtain ⟨er,es⟩:∃ y_:List (aF),y_=(a5.set (a6:Int).toNat (⟨(aB a5 (jB)).f0,(aB a5 (jB)).f1,(aB a5 (jB)).f2⟩:aF)):=⟨_,rfl⟩;rw [← es] at H;have ij:=m_ es;clear es;obtain ⟨ik,et⟩:∃ y_:List (aF),y_=(er.set ((jB):Int).toNat (⟨(aB a5 a6).f0,(aB a5 a6).f1,(aB a5 a6).f2⟩:aF)):=⟨_,rfl⟩;rw [← et] at H;have il:=m_ et;clear et;have H':=m_ H;clear H;try go_wp2
    obtain ⟨bn,HK,HB⟩:=p_ (Kd.bH bn.out) <| p_ (Kept.drew HK.out) <| a_ (nZ HB.out);obtain ⟨mb,mc,im⟩:=Kd.dN bn.out;(first|subst im|(injection im with eu iE eF;have iJ:=eu.symm;have iK:=eF.symm;clear eu iE eF;subst iJ;subst iK))
    have cw:0≤((jB):Int):=aX aY;have cx:(jB) < (a5.length:Int):=aX aY;obtain ⟨io,ln,aO,al,am⟩:=jV (Kd.dn bn.out).2.2 (jB) cw cx;cases ln;replace cw:=eq_true cw;replace cx:=eq_true cx;have cy:0≤(a6:Int):=aX aY;have cz:a6 < (a5.length:Int):=aX aY;obtain ⟨ip,lo,an,ao,ap⟩:=jV (Kd.dn bn.out).2.2 a6 cy cz;obtain rfl:io=ip:=(by injection lo);replace cy:=eq_true cy;replace cz:=eq_true cz;have pF:0≤(a6:Int):=aX aY;have di:(a6:Int) < ((a5.length:Int):Int):=aX aY;obtain ⟨a9,me,FB,ir,lp,mf,iu⟩:=Kd.xQ bn.out (by omega);(first|cases FB|(injection FB with jA sQ sO;(first|subst jA|(injection jA with jA;subst jA));subst sO;clear sQ))
    have eb:=m_ ir;have FV:=m_ iu;clear ir lp iu;have Gv:=m_ (show (dA a9∨w.heap.size≤a9) from (bn.out.1 _ rfl));(first|simp only [add_plain] at aO|skip)
    (first|simp only [add_plain] at al|skip)
    (first|simp only [add_plain] at am|skip)
    (first|simp only [add_plain] at an|skip)
    (first|simp only [add_plain] at ao|skip)
    (first|simp only [add_plain] at ap|skip)
    obtain ⟨MG,iv,DK,dv,lC⟩:=Kd.nX bn.out z43 (a6:Int) pF di;obtain rfl:=og DK;have b8:World.cell? _ ⟨a9,(a6:Int).toNat * 3,none⟩=some (.string ((aB a5 a6).f0)):=dv 0 _ rfl;have b9:World.cell? _ ⟨a9,(a6:Int).toNat * 3+1,none⟩=some (.bool ((aB a5 a6).f1)):=dv 1 _ rfl;have ba:World.cell? _ ⟨a9,(a6:Int).toNat * 3+2,none⟩=some (.string ((aB a5 a6).f2)):=dv 2 _ rfl;have gd:World.frozen? _ ⟨a9,(a6:Int).toNat * 3,none⟩=false:=lC 0;have ge:World.frozen? _ ⟨a9,(a6:Int).toNat * 3+1,none⟩=false:=lC 1;have gf:World.frozen? _ ⟨a9,(a6:Int).toNat * 3+2,none⟩=false:=lC 2;clear iv dv lC DK;replace pF:=eq_true pF;replace di:=eq_true di;obtain ⟨mh,fl,ix,fm,tq⟩:=Kd.nX bn.out z43 (a6:Int) (aX aY) (by have bI:(a6:Int) < ((a5.length:Int):Int):=aX aY;first|exact bI|(have e_:=(Kd.dn bn.out).1;omega)|simpa using bI);obtain rfl:=og ix;have Q7:=(Kd.vW bn.out (a6:Int) (aX aY) (by have bI:(a6:Int) < ((a5.length:Int):Int):=aX aY;first|exact bI|(have e_:=(Kd.dn bn.out).1;omega)|simpa using bI) (seg:=[.string ((aB a5 (jB)).f0),.bool ((aB a5 (jB)).f1),.string ((aB a5 (jB)).f2)]) (j:=0) fl fm (show 3≤3 from by decide) (x':=(⟨(aB a5 (jB)).f0,(aB a5 (jB)).f1,(aB a5 (jB)).f2⟩:aF)) (qU _ _ _ (⟨(aB a5 (jB)).f0,(aB a5 (jB)).f1,(aB a5 (jB)).f2⟩:aF) ) (fun _ hk=>hk)).1;rw [← ij.out] at Q7;have Nz:=m_ Q7;clear fl fm tq ix Q7;have de:0≤((jB):Int):=aX aY;have df:((jB):Int) < ((a5.length:Int):Int):=aX aY;obtain ⟨mi,iz,j5,dx,dy⟩:=Kd.nX Nz.out z43 ((jB):Int) de df;obtain rfl:=og j5;have bb:World.cell? _ ⟨a9,((jB):Int).toNat * 3,none⟩=some (.string ((aB er (jB)).f0)):=dx 0 _ rfl;have bc:World.cell? _ ⟨a9,((jB):Int).toNat * 3+1,none⟩=some (.bool ((aB er (jB)).f1)):=dx 1 _ rfl;have bd:World.cell? _ ⟨a9,((jB):Int).toNat * 3+2,none⟩=some (.string ((aB er (jB)).f2)):=dx 2 _ rfl;have gh:World.frozen? _ ⟨a9,((jB):Int).toNat * 3,none⟩=false:=dy 0;have gi:World.frozen? _ ⟨a9,((jB):Int).toNat * 3+1,none⟩=false:=dy 1;have gj:World.frozen? _ ⟨a9,((jB):Int).toNat * 3+2,none⟩=false:=dy 2;clear iz dx dy j5;replace de:=eq_true de;replace df:=eq_true df;obtain ⟨mj,fo,j9,fp,ja⟩:=Kd.nX Nz.out z43 ((jB):Int) (aX aY) (by have bI:((jB):Int) < ((a5.length:Int):Int):=aX aY;first|exact bI|(have e_:=(Kd.dn bn.out).1;omega)|simpa using bI);obtain rfl:=og j9;have En:=(Kd.vW Nz.out ((jB):Int) (aX aY) (by have bI:((jB):Int) < ((a5.length:Int):Int):=aX aY;first|exact bI|(have e_:=(Kd.dn bn.out).1;omega)|simpa using bI) (seg:=[.string ((aB a5 a6).f0),.bool ((aB a5 a6).f1),.string ((aB a5 a6).f2)]) (j:=0) fo fp (show 3≤3 from by decide) (x':=(⟨(aB a5 a6).f0,(aB a5 a6).f1,(aB a5 a6).f2⟩:aF)) (qU _ _ _ (⟨(aB a5 a6).f0,(aB a5 a6).f1,(aB a5 a6).f2⟩:aF) ) (fun _ hk=>hk)).1
    rw [← il.out] at En;have Ky:=m_ En;clear fo fp ja j9 En;refine iU (n:=18) (S:=fun w'=>NU w' a9 (((jB)).toNat * 3) (.string ((aB a5 (jB)).f0)) (.bool ((aB a5 (jB)).f1)) (.string ((aB a5 (jB)).f2)) <| NV w' a9 (((a6).toNat * 3)) (.string ((aB a5 a6).f0)) (.bool ((aB a5 a6).f1)) (.string ((aB a5 a6).f2))) (ds:=[15,17]) R_ aC rfl rfl ⟨aO,al,am,an,ao,ap⟩ (fun hH=>?_);refine kF (T:=dS.T11) (B:=dS.B11) aC aC (fun aP fK=>?_);generalize wr.drew=n9 at bn HK HB FV Nz Ky gd ge gf gh gi gj b8 b9 ba bb bc bd aO al am an ao ap hH ⊢;refine bM 0 ?_;refine bM 1 ?_;refine bM 2 ?_;refine bM 3 ?_;refine bM 4 ?_;refine bM 5 ?_;refine bM 6 ?_;refine bM 7 ?_;refine bM 8 ?_;refine bM 10 ?_;refine bM 11 ?_;refine bM 12 ?_;refine kE 9 hH ?_;refine kE 13 hH ?_;refine bM 14 ?_;refine zI 15 (fun K hK=>?_);refine jD (w1:=?_) (by rfl) rfl ?_ ?_;rotate_left
    ·go_simp
     rfl
    refine hK.out _ _ ?_;clear hK K;refine bM 16 ?_;refine zI 17 (fun K hK=>?_);refine jD (w1:=?_) (by rfl) rfl ?_ ?_;rotate_left
    ·obtain ⟨Sj,TJ,EX,wS,wU⟩:=Kd.nX bn.out z43 ((jB):Int) (of_eq_true de) (of_eq_true df);obtain rfl:=og EX;have SI:World.frozen? _ ⟨a9,((jB):Int).toNat * 3,none⟩=false:=wU 0;have F8:World.cell? _ ⟨a9,((jB):Int).toNat * 3,none⟩=some _:=wS 0 _ rfl;obtain ⟨_,SC⟩:=cell?_setCell_some (p:=⟨a9,(a6:Int).toNat * 3,none⟩) (x:=.string ((aB a5 (jB)).f0)) F8;have SK:World.frozen? _ ⟨a9,((jB):Int).toNat * 3+1,none⟩=false:=wU 1;have F9:World.cell? _ ⟨a9,((jB):Int).toNat * 3+1,none⟩=some _:=wS 1 _ rfl;obtain ⟨_,ES⟩:=cell?_setCell_some (p:=⟨a9,(a6:Int).toNat * 3,none⟩) (x:=.string ((aB a5 (jB)).f0)) F9;obtain ⟨_,SE⟩:=cell?_setCell_some (p:=⟨a9,(a6:Int).toNat * 3+1,none⟩) (x:=.bool ((aB a5 (jB)).f1)) ES;have SL:World.frozen? _ ⟨a9,((jB):Int).toNat * 3+2,none⟩=false:=wU 2;have Gf:World.cell? _ ⟨a9,((jB):Int).toNat * 3+2,none⟩=some _:=wS 2 _ rfl;obtain ⟨_,ET⟩:=cell?_setCell_some (p:=⟨a9,(a6:Int).toNat * 3,none⟩) (x:=.string ((aB a5 (jB)).f0)) Gf;obtain ⟨_,EU⟩:=cell?_setCell_some (p:=⟨a9,(a6:Int).toNat * 3+1,none⟩) (x:=.bool ((aB a5 (jB)).f1)) ET;obtain ⟨_,SG⟩:=cell?_setCell_some (p:=⟨a9,(a6:Int).toNat * 3+2,none⟩) (x:=.string ((aB a5 (jB)).f2)) EU;go_simp
     rfl
    refine hK.out _ _ ?_;clear hK K;refine jd (kC aP.out aC) ?_;try go_wp2
    go_roundg k2
    case measure=>have:=gG.out;have:=kS.out;omega
    case rel=>exact ⟨(ik),(jB),(by first|rfl|(simp;done)|(simp only [← O_] <;> (first|rfl|simp))|(simp [*];done)),H',⟨MZ⟩,⟨(aN Ky)⟩,⟨(by repeat (first|(with_reducible first|exact HK.out|apply Kept.alloc|apply Kept.drewN|apply Kept.drew|refine Kept.setCell ?_ Gv.out _|refine Kept.setCell ?_ Gv.out _|refine Kept.setCell ?_ Gv.out _|refine Kept.setCell ?_ Gv.out _|refine Kept.setCell ?_ Gv.out _|refine Kept.setCell ?_ Gv.out _)|exact HK.out))⟩,⟨(by repeat (first|(with_reducible first|exact HB.out|apply sK|apply xB|apply nZ|refine jy ?_ eb.out|refine jy ?_ eb.out|refine jy ?_ eb.out|refine jy ?_ eb.out|refine jy ?_ eb.out|refine jy ?_ eb.out)|exact HB.out))⟩⟩
 have fE:=fZ c6;have cv:=f_ c6;revert H;refine eU (fun dz H=>?_) fun dz H=>?_
 ·have cd:=fU dz;have ce:=fV dz;clear dz;have H':=m_ H;clear H;go_enter func133,ntmps133
  go_wp2
  go_loopg [14,15] k (fun kq v14 v15 w'=>∃ (b6:Int) (cf:Int),v14=ah b6∧v15=ah cf∧aA (dS.l2 kq l0 a2 b6 cf=some r)∧aA (kq≤k)∧aA (Kd.R aS 43 w' w0.heap.size (fun ak=>(dA ak∨w.heap.size≤ak)) gX l0)∧aA (Kept w w' (fun ak=>dA ak))∧aA (Below w0.heap.size w0 w'))
  case atStart=>exact ⟨(a1),(a2),bC,bC,H',⟨Nat.le_refl _⟩,⟨(aN ld)⟩,⟨iw⟩,⟨ay⟩⟩
  case round=>as_aux_lemma =>
   clear H';try clear c6;try clear fE;try clear cv;try clear dz;try clear cd;try clear ce
   obtain ⟨b6,cf,rfl,rfl,HA,gG,bn,HK,HB⟩:=hrel;cases gk with
   | zero=>exact absurd HA.out (by simp [dS.l2])
   | succ k1 =>
   obtain ⟨H⟩:=HA;simp only [dS.l2] at H
   revert H;refine fB (fun ct H=>?_) fun ct H=>?_
   ·obtain ⟨d0,H⟩:=gI H;obtain ⟨d1,H⟩:=gI H;obtain ⟨tu,Jm⟩:∃ mZ:Int,(wrap64 ((IntKind.u64.wrap (wrap64 (b6+cf))) / 2))=mZ:=⟨_,rfl⟩;replace H:(if 0≤(tu) then (if (tu) < (l0.length:Int) then ((vg.f ((aB l0 a2).f0) ((aB l0 a2).f1) ((aB l0 a2).f2) ((aB l0 (tu)).f0) ((aB l0 (tu)).f1) ((aB l0 (tu)).f2)).bind fun fh=>(if fh < 0 then (dS.l2 k1 l0 a2 b6 tu) else (dS.l2 k1 l0 a2 (wrap64 ((tu)+1)) cf))) else (none)) else (none))=some r:=by first|(rw [Jm] at H;exact H)|(simp only [Jm] at H ⊢;exact H)
    have aAA:(IntKind.i64.wrap ((IntKind.u64.wrap (wrap64 (b6+cf))) / 2))=tu:=(aV _).trans Jm;obtain ⟨d2,H⟩:=gI H;obtain ⟨d3,H⟩:=gI H;obtain ⟨fh,ml,H⟩:=bd_ H;have jb:=m_ H;clear H;try go_wp2
    obtain ⟨bn,HK,HB⟩:=p_ (Kd.bH bn.out) <| p_ (Kept.drew HK.out) <| a_ (nZ HB.out);obtain ⟨mm,mo,FC⟩:=Kd.dN bn.out;(first|subst FC|(injection FC with eu iE eF;have iJ:=eu.symm;have iK:=eF.symm;clear eu iE eF;subst iJ;subst iK))
    have d7:0≤(a2:Int):=aX aY;have d8:a2 < (l0.length:Int):=aX aY;obtain ⟨be,lr,aq,ar,aT⟩:=jV (Kd.dn bn.out).2.2 a2 d7 d8;cases lr;replace d7:=eq_true d7;replace d8:=eq_true d8;have d9:0≤((tu):Int):=aX aY;have da:(tu) < (l0.length:Int):=aX aY;obtain ⟨Bl,ls,av,aw,ax⟩:=jV (Kd.dn bn.out).2.2 (tu) d9 da;obtain rfl:be=Bl:=(by injection ls);replace d9:=eq_true d9;replace da:=eq_true da;refine iU (n:=12) (S:=fun w'=>Kq w' (be.add ((a2).toNat * 3)) (.string ((aB l0 a2).f0)) (.bool ((aB l0 a2).f1)) (.string ((aB l0 a2).f2)) <| uS w' (be.add (((tu)).toNat * 3)) (.string ((aB l0 (tu)).f0)) (.bool ((aB l0 (tu)).f1)) (.string ((aB l0 (tu)).f2))) (ds:=[]) #[F_,F_,F_,F_,F_,F_,F_,F_,F_,F_,F_,F_] aC rfl rfl ⟨aq,ar,aT,av,aw,ax⟩ (fun hH=>?_);refine kF (T:=dS.afg) (B:=dS.aei) aC aC (fun aP fK=>?_);generalize wr.drew=na at bn HK HB aq ar aT av aw ax hH ⊢;refine dF 0 92 #[aj,F_,F_,F_,F_,F_,F_,F_,F_,F_,F_,F_] aP ?_;refine dF 1 93 #[aj,aj,F_,F_,F_,F_,F_,F_,F_,F_,F_,F_] aP ?_;refine dF 2 94 #[aj,aj,aj,F_,F_,F_,F_,F_,F_,F_,F_,F_] aP ?_;refine dF 3 95 #[aj,aj,aj,aj,F_,F_,F_,F_,F_,F_,F_,F_] aP ?_;refine dF 5 97 #[aj,aj,aj,aj,F_,aj,F_,F_,F_,F_,F_,F_] aP ?_;refine dF 6 98 #[aj,aj,aj,aj,F_,aj,aj,F_,F_,F_,F_,F_] aP ?_;refine dF 7 99 #[aj,aj,aj,aj,F_,aj,aj,aj,F_,F_,F_,F_] aP ?_;refine j_ 4 96 #[aj,aj,aj,aj,aj,aj,aj,aj,F_,F_,F_,F_] aP fK hH ?_;refine j_ 8 100 #[aj,aj,aj,aj,aj,aj,aj,aj,aj,F_,F_,F_] aP fK hH ?_;refine iy (i:=9) (N:=some 101) #[aj,aj,aj,aj,aj,aj,aj,aj,aj,aj,F_,F_] rfl rfl (lG aP.out aC) (by decide) (fun K hK=>?_);refine Ot func48 aC rfl #[.agg #[.string ((aB l0 a2).f0),.bool ((aB l0 a2).f1),.string ((aB l0 a2).f2)],.agg #[.string ((aB l0 (tu)).f0),.bool ((aB l0 (tu)).f1),.string ((aB l0 (tu)).f2)]] (by rfl) rfl rfl (by rfl) (by (try simp only [List.map_toArray,List.map_cons,List.map_nil]);first|done|(simp only [Jm];rfl)|rfl|(simp only [List.length_drop,List.length_take];rfl)) ?_
    with_reducible refine (vg.calls ((aB l0 a2).f0) ((aB l0 a2).f1) ((aB l0 a2).f2) ((aB l0 (tu)).f0) ((aB l0 (tu)).f1) ((aB l0 (tu)).f2) fh _ ml.out).mono ?_
    rintro e nb ⟨rfl,hb⟩;have Eo:=(hb.cell (World.block_lt_of_cell? _ _ (hH.1))).trans (hH.1);have Ep:=(hb.cell (World.block_lt_of_cell? _ _ (hH.2.1))).trans (hH.2.1);have Es:=(hb.cell (World.block_lt_of_cell? _ _ (hH.2.2.1))).trans (hH.2.2.1);have Et:=(hb.cell (World.block_lt_of_cell? _ _ (hH.2.2.2.1))).trans (hH.2.2.2.1);have Eu:=(hb.cell (World.block_lt_of_cell? _ _ (hH.2.2.2.2.1))).trans (hH.2.2.2.2.1);have Ew:=(hb.cell (World.block_lt_of_cell? _ _ (hH.2.2.2.2.2))).trans (hH.2.2.2.2.2);refine ⟨_,rfl,?_⟩;obtain ⟨bn,HK,HB⟩:=p_ (Kd.bG (aN bn) hb) <| p_ (Kept.below (S:=(fun ak=>dA ak)) iw hb) <| a_ (dV ay hb);(try clear hb)
    refine hK.out _ _ ⟨Eo,Ep,Es,Et,Eu,Ew⟩ (fun hH=>?_);clear hK K;refine gY (some 101) ?_;refine dF 10 102 #[aj,aj,aj,aj,aj,aj,aj,aj,aj,aj,aj,F_] aP ?_;refine dF 11 103 #[aj,aj,aj,aj,aj,aj,aj,aj,aj,aj,aj,aj] aP ?_;refine jd (kC aP.out aC) ?_;go_upto_if 103 with (fail)
    (try clear aq ar aT)
    (try clear av aw ax)
    obtain ⟨H⟩:=jb;revert H;refine fB (fun fA H=>?_) fun fA H=>?_
    ·try simp only [aV,aZ,fA]
     have H':=m_ H;clear H;go_wp2
     go_roundg k1
     case measure=>have:=gG.out;omega
     case rel=>exact ⟨(b6),(tu),bC,(by first|rfl|(simp;done)|(simp only [← Jm] <;> (first|rfl|simp))|(simp [*];done)),H',⟨oz⟩,⟨(aN bn)⟩,⟨iw⟩,⟨ay⟩⟩
    try simp only [aV,aZ,fA]
    have H':=m_ H;clear H;go_wp2
    go_roundg k1
    case measure=>have:=gG.out;omega
    case rel=>exact ⟨(wrap64 ((tu)+1)),(cf),(by first|rfl|(simp;done)|(simp only [← Jm] <;> (first|rfl|simp))|(simp [*];done)),bC,H',⟨oz⟩,⟨(aN bn)⟩,⟨iw⟩,⟨ay⟩⟩
   have H':=m_ H;clear H;go_wp2
   go_loopg [17] k1 (fun kq v17 w'=>∃ (a5:List (aF)) (a7:Int),v17=ah a7∧aA (dS.l3 kq a5 b6 a7=some r)∧aA (kq≤k1)∧aA (Kd.R aS 43 w' w0.heap.size (fun ak=>(dA ak∨w.heap.size≤ak)) gX a5)∧aA (Kept w w' (fun ak=>dA ak))∧aA (Below w0.heap.size w0 w'))
   case atStart=>exact ⟨(l0),(a2),bC,H',⟨Nat.le_refl _⟩,⟨(aN bn)⟩,⟨iw⟩,⟨ay⟩⟩
   case round=>as_aux_lemma =>
    clear H';try clear ep;try clear ct
    obtain ⟨a5,a7,rfl,HA,kS,bn,HK,HB⟩:=hrel;cases gk with
    | zero=>exact absurd HA.out (by simp [dS.l3])
    | succ k2 =>
    obtain ⟨H⟩:=HA;simp only [dS.l3] at H
    revert H;refine fB (fun d4 H=>?_) fun d4 H=>?_;rotate_left
    ·obtain rfl:=bQ H;go_wp2
     first|go_end0|((try simp only [Exit.inBlock,Exit.then]);refine bodyPost_ret (results_none rfl _ _ _) rfl ?_)
     exact ⟨bK,(aN bn),ay,iw⟩
    obtain ⟨jC,Pj⟩:∃ mZ:Int,(wrap64 (a7 - 1))=mZ:=⟨_,rfl⟩;replace H:(if 0≤(jC) then (if (jC) < (a5.length:Int) then (if 0≤a7 then (if a7 < (a5.length:Int) then (dS.l3 k2 ((a5.set (a7:Int).toNat (⟨(aB a5 (jC)).f0,(aB a5 (jC)).f1,(aB a5 (jC)).f2⟩:aF)).set ((jC):Int).toNat (⟨(aB a5 a7).f0,(aB a5 a7).f1,(aB a5 a7).f2⟩:aF)) b6 jC) else (none)) else (none)) else (none)) else (none))=some r:=by first|(rw [Pj] at H;exact H)|(simp only [Pj] at H ⊢;exact H)
    have aAE:(IntKind.i64.wrap (a7 - 1))=jC:=(aV _).trans Pj;obtain ⟨dj,H⟩:=gI H;obtain ⟨dk,H⟩:=gI H;obtain ⟨dl,H⟩:=gI H;obtain ⟨dm,H⟩:=gI H;obtain ⟨ev,ew⟩:∃ y_:List (aF),y_=(a5.set (a7:Int).toNat (⟨(aB a5 (jC)).f0,(aB a5 (jC)).f1,(aB a5 (jC)).f2⟩:aF)):=⟨_,rfl⟩;rw [← ew] at H;have Bo:=m_ ew;clear ew;obtain ⟨L8,ex⟩:∃ y_:List (aF),y_=(ev.set ((jC):Int).toNat (⟨(aB a5 a7).f0,(aB a5 a7).f1,(aB a5 a7).f2⟩:aF)):=⟨_,rfl⟩;rw [← ex] at H;have Jv:=m_ ex;clear ex;have H':=m_ H;clear H;try go_wp2
    obtain ⟨bn,HK,HB⟩:=p_ (Kd.bH bn.out) <| p_ (Kept.drew HK.out) <| a_ (nZ HB.out);obtain ⟨mq,mr,Ci⟩:=Kd.dN bn.out;(first|subst Ci|(injection Ci with eu iE eF;have iJ:=eu.symm;have iK:=eF.symm;clear eu iE eF;subst iJ;subst iK))
    have lJ:0≤((jC):Int):=aX aY;have dp:(jC) < (a5.length:Int):=aX aY;obtain ⟨Cj,abE,bD,az,b0⟩:=jV (Kd.dn bn.out).2.2 (jC) lJ dp;cases abE;replace lJ:=eq_true lJ;replace dp:=eq_true dp;have dq:0≤(a7:Int):=aX aY;have dr:a7 < (a5.length:Int):=aX aY;obtain ⟨jj,lv,b1,b2,b3⟩:=jV (Kd.dn bn.out).2.2 a7 dq dr;obtain rfl:Cj=jj:=(by injection lv);replace dq:=eq_true dq;replace dr:=eq_true dr;have ec:0≤(a7:Int):=aX aY;have ed:(a7:Int) < ((a5.length:Int):Int):=aX aY;obtain ⟨aa,ms,Cm,zF,lw,mt,zG⟩:=Kd.xQ bn.out (by omega);(first|cases Cm|(injection Cm with jA sQ sO;(first|subst jA|(injection jA with jA;subst jA));subst sO;clear sQ))
    have ee:=m_ zF;have lx:=m_ zG;clear zF lw zG;have Gw:=m_ (show (dA aa∨w.heap.size≤aa) from (bn.out.1 _ rfl));(first|simp only [add_plain] at bD|skip)
    (first|simp only [add_plain] at az|skip)
    (first|simp only [add_plain] at b0|skip)
    (first|simp only [add_plain] at b1|skip)
    (first|simp only [add_plain] at b2|skip)
    (first|simp only [add_plain] at b3|skip)
    obtain ⟨mu,jn,FD,e0,e3⟩:=Kd.nX bn.out z43 (a7:Int) ec ed;obtain rfl:=og FD;have bp:World.cell? _ ⟨aa,(a7:Int).toNat * 3,none⟩=some (.string ((aB a5 a7).f0)):=e0 0 _ rfl;have bq:World.cell? _ ⟨aa,(a7:Int).toNat * 3+1,none⟩=some (.bool ((aB a5 a7).f1)):=e0 1 _ rfl;have br:World.cell? _ ⟨aa,(a7:Int).toNat * 3+2,none⟩=some (.string ((aB a5 a7).f2)):=e0 2 _ rfl;have gp:World.frozen? _ ⟨aa,(a7:Int).toNat * 3,none⟩=false:=e3 0;have BU:World.frozen? _ ⟨aa,(a7:Int).toNat * 3+1,none⟩=false:=e3 1;have gr:World.frozen? _ ⟨aa,(a7:Int).toNat * 3+2,none⟩=false:=e3 2;clear jn e0 e3 FD;replace ec:=eq_true ec;replace ed:=eq_true ed;obtain ⟨mv,fu,jp,fw,PD⟩:=Kd.nX bn.out z43 (a7:Int) (aX aY) (by have bI:(a7:Int) < ((a5.length:Int):Int):=aX aY;first|exact bI|(have e_:=(Kd.dn bn.out).1;omega)|simpa using bI);obtain rfl:=og jp;have Q_:=(Kd.vW bn.out (a7:Int) (aX aY) (by have bI:(a7:Int) < ((a5.length:Int):Int):=aX aY;first|exact bI|(have e_:=(Kd.dn bn.out).1;omega)|simpa using bI) (seg:=[.string ((aB a5 (jC)).f0),.bool ((aB a5 (jC)).f1),.string ((aB a5 (jC)).f2)]) (j:=0) fu fw (show 3≤3 from by decide) (x':=(⟨(aB a5 (jC)).f0,(aB a5 (jC)).f1,(aB a5 (jC)).f2⟩:aF)) (qU _ _ _ (⟨(aB a5 (jC)).f0,(aB a5 (jC)).f1,(aB a5 (jC)).f2⟩:aF) ) (fun _ hk=>hk)).1;rw [← Bo.out] at Q_;have NC:=m_ Q_;clear fu fw PD jp Q_;have e4:0≤((jC):Int):=aX aY;have e5:((jC):Int) < ((a5.length:Int):Int):=aX aY;obtain ⟨mw,VR,js,e6,e7⟩:=Kd.nX NC.out z43 ((jC):Int) e4 e5;obtain rfl:=og js;have bs:World.cell? _ ⟨aa,((jC):Int).toNat * 3,none⟩=some (.string ((aB ev (jC)).f0)):=e6 0 _ rfl;have bu:World.cell? _ ⟨aa,((jC):Int).toNat * 3+1,none⟩=some (.bool ((aB ev (jC)).f1)):=e6 1 _ rfl;have bv:World.cell? _ ⟨aa,((jC):Int).toNat * 3+2,none⟩=some (.string ((aB ev (jC)).f2)):=e6 2 _ rfl;have gs:World.frozen? _ ⟨aa,((jC):Int).toNat * 3,none⟩=false:=e7 0;have gt:World.frozen? _ ⟨aa,((jC):Int).toNat * 3+1,none⟩=false:=e7 1;have vN:World.frozen? _ ⟨aa,((jC):Int).toNat * 3+2,none⟩=false:=e7 2;clear VR e6 e7 js;replace e4:=eq_true e4;replace e5:=eq_true e5;obtain ⟨my,fx,jt,fy,ju⟩:=Kd.nX NC.out z43 ((jC):Int) (aX aY) (by have bI:((jC):Int) < ((a5.length:Int):Int):=aX aY;first|exact bI|(have e_:=(Kd.dn bn.out).1;omega)|simpa using bI);obtain rfl:=og jt;have Rf:=(Kd.vW NC.out ((jC):Int) (aX aY) (by have bI:((jC):Int) < ((a5.length:Int):Int):=aX aY;first|exact bI|(have e_:=(Kd.dn bn.out).1;omega)|simpa using bI) (seg:=[.string ((aB a5 a7).f0),.bool ((aB a5 a7).f1),.string ((aB a5 a7).f2)]) (j:=0) fx fy (show 3≤3 from by decide) (x':=(⟨(aB a5 a7).f0,(aB a5 a7).f1,(aB a5 a7).f2⟩:aF)) (qU _ _ _ (⟨(aB a5 a7).f0,(aB a5 a7).f1,(aB a5 a7).f2⟩:aF) ) (fun _ hk=>hk)).1
    rw [← Jv.out] at Rf;have XH:=m_ Rf;clear fx fy ju jt Rf;refine iU (n:=18) (S:=fun w'=>NU w' aa (((jC)).toNat * 3) (.string ((aB a5 (jC)).f0)) (.bool ((aB a5 (jC)).f1)) (.string ((aB a5 (jC)).f2)) <| NV w' aa (((a7).toNat * 3)) (.string ((aB a5 a7).f0)) (.bool ((aB a5 a7).f1)) (.string ((aB a5 a7).f2))) (ds:=[15,17]) R_ aC rfl rfl ⟨bD,az,b0,b1,b2,b3⟩ (fun hH=>?_);refine kF (T:=dS.afi) (B:=dS.ael) aC aC (fun aP fK=>?_);generalize wr.drew=nc at bn HK HB lx NC XH gp BU gr gs gt vN bD az b0 b1 b2 b3 bp bq br bs bu bv hH ⊢;refine bM 0 ?_;refine bM 1 ?_;refine bM 2 ?_;refine bM 3 ?_;refine bM 4 ?_;refine bM 5 ?_;refine bM 6 ?_;refine bM 7 ?_;refine bM 8 ?_;refine bM 10 ?_;refine bM 11 ?_;refine bM 12 ?_;refine kE 9 hH ?_;refine kE 13 hH ?_;refine bM 14 ?_;refine zI 15 (fun K hK=>?_);refine jD (w1:=?_) (by rfl) rfl ?_ ?_;rotate_left
    ·go_simp
     rfl
    refine hK.out _ _ ?_;clear hK K;refine bM 16 ?_;refine zI 17 (fun K hK=>?_);refine jD (w1:=?_) (by rfl) rfl ?_ ?_;rotate_left
    ·obtain ⟨Sj,TJ,EX,wS,wU⟩:=Kd.nX bn.out z43 ((jC):Int) (of_eq_true e4) (of_eq_true e5);obtain rfl:=og EX;have SI:World.frozen? _ ⟨aa,((jC):Int).toNat * 3,none⟩=false:=wU 0;have F8:World.cell? _ ⟨aa,((jC):Int).toNat * 3,none⟩=some _:=wS 0 _ rfl;obtain ⟨_,SC⟩:=cell?_setCell_some (p:=⟨aa,(a7:Int).toNat * 3,none⟩) (x:=.string ((aB a5 (jC)).f0)) F8;have SK:World.frozen? _ ⟨aa,((jC):Int).toNat * 3+1,none⟩=false:=wU 1;have F9:World.cell? _ ⟨aa,((jC):Int).toNat * 3+1,none⟩=some _:=wS 1 _ rfl;obtain ⟨_,ES⟩:=cell?_setCell_some (p:=⟨aa,(a7:Int).toNat * 3,none⟩) (x:=.string ((aB a5 (jC)).f0)) F9;obtain ⟨_,SE⟩:=cell?_setCell_some (p:=⟨aa,(a7:Int).toNat * 3+1,none⟩) (x:=.bool ((aB a5 (jC)).f1)) ES;have SL:World.frozen? _ ⟨aa,((jC):Int).toNat * 3+2,none⟩=false:=wU 2;have Gf:World.cell? _ ⟨aa,((jC):Int).toNat * 3+2,none⟩=some _:=wS 2 _ rfl;obtain ⟨_,ET⟩:=cell?_setCell_some (p:=⟨aa,(a7:Int).toNat * 3,none⟩) (x:=.string ((aB a5 (jC)).f0)) Gf;obtain ⟨_,EU⟩:=cell?_setCell_some (p:=⟨aa,(a7:Int).toNat * 3+1,none⟩) (x:=.bool ((aB a5 (jC)).f1)) ET;obtain ⟨_,SG⟩:=cell?_setCell_some (p:=⟨aa,(a7:Int).toNat * 3+2,none⟩) (x:=.string ((aB a5 (jC)).f2)) EU;go_simp
     rfl
    refine hK.out _ _ ?_;clear hK K;refine jd (kC aP.out aC) ?_;try go_wp2
    go_roundg k2
    case measure=>have:=gG.out;have:=kS.out;omega
    case rel=>exact ⟨(L8),(jC),(by first|rfl|(simp;done)|(simp only [← Pj] <;> (first|rfl|simp))|(simp [*];done)),H',⟨MZ⟩,⟨(aN XH)⟩,⟨(by repeat (first|(with_reducible first|exact HK.out|apply Kept.alloc|apply Kept.drewN|apply Kept.drew|refine Kept.setCell ?_ Gw.out _|refine Kept.setCell ?_ Gw.out _|refine Kept.setCell ?_ Gw.out _|refine Kept.setCell ?_ Gw.out _|refine Kept.setCell ?_ Gw.out _|refine Kept.setCell ?_ Gw.out _)|exact HK.out))⟩,⟨(by repeat (first|(with_reducible first|exact HB.out|apply sK|apply xB|apply nZ|refine jy ?_ ee.out|refine jy ?_ ee.out|refine jy ?_ ee.out|refine jy ?_ ee.out|refine jy ?_ ee.out|refine jy ?_ ee.out)|exact HB.out))⟩⟩
 have cd:=fZ dz;have ce:=f_ dz;have gv:=m_ H;clear H;go_enter func133,ntmps133
 go_upto_if 140 with (fail)
 go_cut [20,21] (fun v20 v21 wc=>∃ (kq:Nat) (db:Int) (dd:Int),v20=ah db∧v21=ah dd∧aA (dS.j4 kq l0 a1 a2 a3 a4 (wrap64 ((IntKind.u64.wrap (wrap64 (a1+a3))) / 2)) (wrap64 ((wrap64 ((IntKind.u64.wrap (wrap64 (a1+a3))) / 2))+a2)) db dd=some r)∧aA (kq≤k)∧aA (Kd.R aS 43 wc w0.heap.size (fun ak=>(dA ak∨w.heap.size≤ak)) gX l0)∧aA (Kept w wc (fun ak=>dA ak))∧aA (Below w0.heap.size w0 wc))
 case first =>
  obtain ⟨H⟩:=gv;revert H;refine fB (fun bo H=>?_) fun bo H=>?_;rotate_left
  ·try simp only [aV,aZ,bo]
   have H':=m_ H;clear H;go_wp2
   go_meet
   case rel=>exact ⟨_,(a1),(a2),bC,bC,H',⟨lM⟩,⟨(aN ld)⟩,⟨iw⟩,⟨ay⟩⟩
  try simp only [aV,aZ,bo]
  have H':=m_ H;clear H;go_wp2
  go_meet
  case rel=>exact ⟨_,(wrap64 ((wrap64 ((wrap64 ((IntKind.u64.wrap (wrap64 (a1+a3))) / 2))+a2)) - a3)),(wrap64 ((IntKind.u64.wrap (wrap64 (a1+a3))) / 2)),bC,bC,H',⟨lM⟩,⟨(aN ld)⟩,⟨iw⟩,⟨ay⟩⟩
 case rest =>
 clear gv;try clear c6;try clear fE;try clear cv;try clear dz;try clear cd;try clear ce
 obtain ⟨kq,db,dd,rfl,rfl,HA,y9,bn,HK,HB⟩:=hcut;cases kq with
 | zero=>exact absurd HA.out (by simp [dS.j4])
 | succ PL =>
 obtain ⟨H⟩:=HA;simp only [dS.j4] at H
 have H':=m_ H;clear H;go_wp2
 go_loopg [20,21] PL (fun kq v20 v21 w'=>∃ (a8:Int) (aH:Int),v20=ah a8∧v21=ah aH∧aA (dS.l4 kq l0 a1 a2 a3 a4 (wrap64 ((IntKind.u64.wrap (wrap64 (a1+a3))) / 2)) (wrap64 ((wrap64 ((IntKind.u64.wrap (wrap64 (a1+a3))) / 2))+a2)) a8 aH (wrap64 ((wrap64 ((wrap64 ((IntKind.u64.wrap (wrap64 (a1+a3))) / 2))+a2)) - 1))=some r)∧aA (kq≤PL)∧aA (Kd.R aS 43 w' w0.heap.size (fun ak=>(dA ak∨w.heap.size≤ak)) gX l0)∧aA (Kept w w' (fun ak=>dA ak))∧aA (Below w0.heap.size w0 w'))
 case atStart=>exact ⟨(db),(dd),bC,bC,H',⟨Nat.le_refl _⟩,⟨(aN bn)⟩,⟨iw⟩,⟨ay⟩⟩
 case round=>as_aux_lemma =>
  clear H';obtain ⟨a8,aH,rfl,rfl,HA,kS,bn,HK,HB⟩:=hrel;cases gk with
  | zero=>exact absurd HA.out (by simp [dS.l4])
  | succ k2 =>
  obtain ⟨H⟩:=HA;simp only [dS.l4] at H
  revert H;refine fB (fun e8 H=>?_) fun e8 H=>?_
  ·obtain ⟨su,LC⟩:∃ mZ:Int,(wrap64 ((wrap64 ((wrap64 ((wrap64 ((IntKind.u64.wrap (wrap64 (a1+a3))) / 2))+a2)) - 1)) - (wrap64 ((IntKind.u64.wrap (wrap64 (a8+aH))) / 2))))=mZ:=⟨_,rfl⟩;replace H:(if 0≤(su) then (if (su) < (l0.length:Int) then (if 0≤(wrap64 ((IntKind.u64.wrap (wrap64 (a8+aH))) / 2)) then (if (wrap64 ((IntKind.u64.wrap (wrap64 (a8+aH))) / 2)) < (l0.length:Int) then ((vg.f ((aB l0 (su)).f0) ((aB l0 (su)).f1) ((aB l0 (su)).f2) ((aB l0 (wrap64 ((IntKind.u64.wrap (wrap64 (a8+aH))) / 2))).f0) ((aB l0 (wrap64 ((IntKind.u64.wrap (wrap64 (a8+aH))) / 2))).f1) ((aB l0 (wrap64 ((IntKind.u64.wrap (wrap64 (a8+aH))) / 2))).f2)).bind fun ef=>(if ef < 0 then (dS.l4 k2 l0 a1 a2 a3 a4 (wrap64 ((IntKind.u64.wrap (wrap64 (a1+a3))) / 2)) (wrap64 ((wrap64 ((IntKind.u64.wrap (wrap64 (a1+a3))) / 2))+a2)) a8 (wrap64 ((IntKind.u64.wrap (wrap64 (a8+aH))) / 2)) (wrap64 ((wrap64 ((wrap64 ((IntKind.u64.wrap (wrap64 (a1+a3))) / 2))+a2)) - 1))) else (dS.l4 k2 l0 a1 a2 a3 a4 (wrap64 ((IntKind.u64.wrap (wrap64 (a1+a3))) / 2)) (wrap64 ((wrap64 ((IntKind.u64.wrap (wrap64 (a1+a3))) / 2))+a2)) (wrap64 ((wrap64 ((IntKind.u64.wrap (wrap64 (a8+aH))) / 2))+1)) aH (wrap64 ((wrap64 ((wrap64 ((IntKind.u64.wrap (wrap64 (a1+a3))) / 2))+a2)) - 1))))) else (none)) else (none)) else (none)) else (none))=some r:=by first|(rw [LC] at H;exact H)|(simp only [LC] at H ⊢;exact H)
   have aAG:(IntKind.i64.wrap ((wrap64 ((wrap64 ((wrap64 ((IntKind.u64.wrap (wrap64 (a1+a3))) / 2))+a2)) - 1)) - (wrap64 ((IntKind.u64.wrap (wrap64 (a8+aH))) / 2))))=su:=(aV _).trans LC;obtain ⟨ez,H⟩:=gI H;obtain ⟨f3,H⟩:=gI H;obtain ⟨rU,EZ⟩:∃ mZ:Int,(wrap64 ((IntKind.u64.wrap (wrap64 (a8+aH))) / 2))=mZ:=⟨_,rfl⟩;replace H:(if 0≤(rU) then (if (rU) < (l0.length:Int) then ((vg.f ((aB l0 (su)).f0) ((aB l0 (su)).f1) ((aB l0 (su)).f2) ((aB l0 (rU)).f0) ((aB l0 (rU)).f1) ((aB l0 (rU)).f2)).bind fun ef=>(if ef < 0 then (dS.l4 k2 l0 a1 a2 a3 a4 (wrap64 ((IntKind.u64.wrap (wrap64 (a1+a3))) / 2)) (wrap64 ((wrap64 ((IntKind.u64.wrap (wrap64 (a1+a3))) / 2))+a2)) a8 rU (wrap64 ((wrap64 ((wrap64 ((IntKind.u64.wrap (wrap64 (a1+a3))) / 2))+a2)) - 1))) else (dS.l4 k2 l0 a1 a2 a3 a4 (wrap64 ((IntKind.u64.wrap (wrap64 (a1+a3))) / 2)) (wrap64 ((wrap64 ((IntKind.u64.wrap (wrap64 (a1+a3))) / 2))+a2)) (wrap64 ((rU)+1)) aH (wrap64 ((wrap64 ((wrap64 ((IntKind.u64.wrap (wrap64 (a1+a3))) / 2))+a2)) - 1))))) else (none)) else (none))=some r:=by first|(rw [EZ] at H;exact H)|(simp only [EZ] at H ⊢;exact H)
   have aAH:(IntKind.i64.wrap ((IntKind.u64.wrap (wrap64 (a8+aH))) / 2))=rU:=(aV _).trans EZ;have alz:(wrap64 ((wrap64 ((wrap64 ((wrap64 ((IntKind.u64.wrap (wrap64 (a1+a3))) / 2))+a2)) - 1)) - rU))=su:=by rw [← EZ];exact LC
   have aAF:(IntKind.i64.wrap ((wrap64 ((wrap64 ((wrap64 ((IntKind.u64.wrap (wrap64 (a1+a3))) / 2))+a2)) - 1)) - rU))=su:=(aV _).trans alz;obtain ⟨f4,H⟩:=gI H;obtain ⟨f7,H⟩:=gI H;obtain ⟨ef,mz,H⟩:=bd_ H;have jz:=m_ H;clear H;try go_wp2
   obtain ⟨bn,HK,HB⟩:=p_ (Kd.bH bn.out) <| p_ (Kept.drew HK.out) <| a_ (nZ HB.out);obtain ⟨n0,n1,l5⟩:=Kd.dN bn.out;(first|subst l5|(injection l5 with eu iE eF;have iJ:=eu.symm;have iK:=eF.symm;clear eu iE eF;subst iJ;subst iK))
   have eh:0≤((su):Int):=aX aY;have ei:(su) < (l0.length:Int):=aX aY;obtain ⟨dL,ly,bh,bi,bj⟩:=jV (Kd.dn bn.out).2.2 (su) eh ei;cases ly;replace eh:=eq_true eh;replace ei:=eq_true ei;have ej:0≤((rU):Int):=aX aY;have ek:(rU) < (l0.length:Int):=aX aY;obtain ⟨l6,lz,bl,bm,fG⟩:=jV (Kd.dn bn.out).2.2 (rU) ej ek;obtain rfl:dL=l6:=(by injection lz);replace ej:=eq_true ej;replace ek:=eq_true ek;refine iU (n:=14) (S:=fun w'=>Kq w' (dL.add (((su)).toNat * 3)) (.string ((aB l0 (su)).f0)) (.bool ((aB l0 (su)).f1)) (.string ((aB l0 (su)).f2)) <| uS w' (dL.add (((rU)).toNat * 3)) (.string ((aB l0 (rU)).f0)) (.bool ((aB l0 (rU)).f1)) (.string ((aB l0 (rU)).f2))) (ds:=[]) G_ aC rfl rfl ⟨bh,bi,bj,bl,bm,fG⟩ (fun hH=>?_);refine kF (T:=dS.Rw) (B:=dS.QN) aC aC (fun aP fK=>?_);generalize wr.drew=ne at bn HK HB bh bi bj bl bm fG hH ⊢;refine bM 0 ?_;refine bM 1 ?_;refine dF 2 160 #[aj,aj,aj,F_,F_,F_,F_,F_,F_,F_,F_,F_,F_,F_] aP ?_;refine dF 3 161 #[aj,aj,aj,aj,F_,F_,F_,F_,F_,F_,F_,F_,F_,F_] aP ?_;refine bM 4 ?_;refine bM 5 ?_;refine dF 7 165 #[aj,aj,aj,aj,aj,aj,F_,aj,F_,F_,F_,F_,F_,F_] aP ?_;refine dF 8 166 #[aj,aj,aj,aj,aj,aj,F_,aj,aj,F_,F_,F_,F_,F_] aP ?_;refine dF 9 167 #[aj,aj,aj,aj,aj,aj,F_,aj,aj,aj,F_,F_,F_,F_] aP ?_;refine kE 6 hH ?_;refine kE 10 hH ?_;refine oH 11 (fun K hK=>?_);refine Ot func48 aC rfl #[.agg #[.string ((aB l0 (su)).f0),.bool ((aB l0 (su)).f1),.string ((aB l0 (su)).f2)],.agg #[.string ((aB l0 (rU)).f0),.bool ((aB l0 (rU)).f1),.string ((aB l0 (rU)).f2)]] (by rfl) rfl rfl (by rfl) (by (try simp only [List.map_toArray,List.map_cons,List.map_nil]);first|done|(simp only [LC,EZ];rfl)|rfl|(simp only [List.length_drop,List.length_take];rfl)) ?_
   with_reducible refine (vg.calls ((aB l0 (su)).f0) ((aB l0 (su)).f1) ((aB l0 (su)).f2) ((aB l0 (rU)).f0) ((aB l0 (rU)).f1) ((aB l0 (rU)).f2) ef _ mz.out).mono ?_
   rintro e nf ⟨rfl,hb⟩;have Eo:=(hb.cell (World.block_lt_of_cell? _ _ (hH.1))).trans (hH.1);have Ep:=(hb.cell (World.block_lt_of_cell? _ _ (hH.2.1))).trans (hH.2.1);have Es:=(hb.cell (World.block_lt_of_cell? _ _ (hH.2.2.1))).trans (hH.2.2.1);have Et:=(hb.cell (World.block_lt_of_cell? _ _ (hH.2.2.2.1))).trans (hH.2.2.2.1);have Eu:=(hb.cell (World.block_lt_of_cell? _ _ (hH.2.2.2.2.1))).trans (hH.2.2.2.2.1);have Ew:=(hb.cell (World.block_lt_of_cell? _ _ (hH.2.2.2.2.2))).trans (hH.2.2.2.2.2);refine ⟨_,rfl,?_⟩;obtain ⟨bn,HK,HB⟩:=p_ (Kd.bG (aN bn) hb) <| p_ (Kept.below (S:=(fun ak=>dA ak)) iw hb) <| a_ (dV ay hb);(try clear hb)
   refine hK.out _ _ ⟨Eo,Ep,Es,Et,Eu,Ew⟩ (fun hH=>?_);clear hK K;refine gY (some 169) ?_;refine bM 12 ?_;refine bM 13 ?_;refine jd (kC aP.out aC) ?_;go_upto_if 171 with (fail)
   (try clear bh bi bj)
   (try clear bl bm fG)
   obtain ⟨H⟩:=jz;revert H;refine fB (fun cg H=>?_) fun cg H=>?_
   ·try simp only [aV,aZ,cg]
    have H':=m_ H;clear H;go_wp2
    go_roundg k2
    case measure=>have:=y9.out;have:=kS.out;omega
    case rel=>exact ⟨(a8),(rU),bC,(by first|rfl|(simp;done)|(simp only [← EZ] <;> (first|rfl|simp))|(simp [*];done)),H',⟨(by have:=y9.out;have:=kS.out;omega)⟩,⟨(aN bn)⟩,⟨iw⟩,⟨ay⟩⟩
   try simp only [aV,aZ,cg]
   have H':=m_ H;clear H;go_wp2
   go_roundg k2
   case measure=>have:=y9.out;have:=kS.out;omega
   case rel=>exact ⟨(wrap64 ((rU)+1)),(aH),(by first|rfl|(simp;done)|(simp only [← EZ] <;> (first|rfl|simp))|(simp [*];done)),bC,H',⟨(by have:=y9.out;have:=kS.out;omega)⟩,⟨(aN bn)⟩,⟨iw⟩,⟨ay⟩⟩
  have gw:=m_ H;clear H;go_upto_region 39 with (fail)
  go_cut [185] (fun aoI wc=>∃ (kq:Nat) (ci:Bool),aoI=.bool ci∧aA (dS.j6 kq l0 a1 a2 a3 a4 (wrap64 ((IntKind.u64.wrap (wrap64 (a1+a3))) / 2)) a8 (wrap64 ((wrap64 ((wrap64 ((IntKind.u64.wrap (wrap64 (a1+a3))) / 2))+a2)) - a8)) ci=some r)∧aA (kq≤k2)∧aA (Kd.R aS 43 wc w0.heap.size (fun ak=>(dA ak∨w.heap.size≤ak)) gX l0)∧aA (Kept w wc (fun ak=>dA ak))∧aA (Below w0.heap.size w0 wc))
  case first =>
   obtain ⟨H⟩:=gw;revert H;refine fB (fun ch H=>?_) fun ch H=>?_;rotate_left
   ·try simp only [aV,aZ,ch]
    have H':=m_ H;clear H;go_wp2
    go_meet
    case rel=>exact ⟨_,(false),bC,H',⟨(by have:=y9.out;have:=kS.out;first|omega|exact Nat.le_refl _)⟩,⟨(aN bn)⟩,⟨iw⟩,⟨ay⟩⟩
   try simp only [aV,aZ,ch]
   have H':=m_ H;clear H;go_wp2
   go_meet
   case rel=>exact ⟨_,(decide (a2 < (wrap64 ((wrap64 ((wrap64 ((IntKind.u64.wrap (wrap64 (a1+a3))) / 2))+a2)) - a8)))),bC,H',⟨(by have:=y9.out;have:=kS.out;first|omega|exact Nat.le_refl _)⟩,⟨(aN bn)⟩,⟨iw⟩,⟨ay⟩⟩
  case rest =>
  clear gw;try clear fi;try clear e8
  obtain ⟨kq,ci,rfl,HA,Kw,bn,HK,HB⟩:=hcut;cases kq with
  | zero=>exact absurd HA.out (by simp [dS.j6])
  | succ abu =>
  obtain ⟨H⟩:=HA;simp only [dS.j6] at H
  have gx:=m_ H;clear H;go_upto_if 185 with (fail)
  go_cut [] (fun wc=>∃ (kq:Nat) (ab:List (aF)),aA (dS.j7 kq ab a1 a3 a4 (wrap64 ((IntKind.u64.wrap (wrap64 (a1+a3))) / 2)) a8 (wrap64 ((wrap64 ((wrap64 ((IntKind.u64.wrap (wrap64 (a1+a3))) / 2))+a2)) - a8))=some r)∧aA (kq≤abu)∧aA (Kd.R aS 43 wc w0.heap.size (fun ak=>(dA ak∨w.heap.size≤ak)) gX ab)∧aA (Kept w wc (fun ak=>dA ak))∧aA (Below w0.heap.size w0 wc))
  case first =>
   obtain ⟨H⟩:=gx;by_cases i9:ci=true
   rotate_left
   ·replace i9:=Bool.eq_false_iff.mpr i9;subst i9;rw [if_neg iF] at H;have H':=m_ H;clear H;go_wp2
    go_meet
    case rel=>exact ⟨_,(l0),H',⟨(by have:=y9.out;have:=kS.out;have:=Kw.out;first|omega|exact Nat.le_refl _)⟩,⟨(aN bn)⟩,⟨iw⟩,⟨ay⟩⟩
   subst i9;rw [if_pos rfl] at H;obtain ⟨DN,n2,H⟩:=bd_ H;have H':=m_ H;clear H;obtain ⟨zy,gz,m0⟩:=Kd.dN bn.out;subst m0;go_wp2_with (first|((with_reducible refine cu 148 ?_);refine cO (some 191) rfl rfl func148 aC rfl #[.slice zy l0.length gz,ah a8,ah a2,ah (wrap64 ((wrap64 ((wrap64 ((IntKind.u64.wrap (wrap64 (a1+a3))) / 2))+a2)) - a8)),.func (.func 48) #[] #[]] rfl bJ ?_;(with_reducible refine (wJ.calls abu (fun ak=>some ak=(.slice zy l0.length gz:Value).ownBlock) (.slice zy l0.length gz) l0 a8 a2 (wrap64 ((wrap64 ((wrap64 ((IntKind.u64.wrap (wrap64 (a1+a3))) / 2))+a2)) - a8)) a4 DN w0 _ ay (Kd.rH rfl bn.out) n2.out).mono ?_);rintro e V4 ⟨rfl,e9,hb,hkp⟩;refine ⟨_,rfl,?_⟩;obtain ⟨bn,HK,HB⟩:=p_ (Kd.uV rfl e9 (fun ak e_=>bn.out.1 ak e_)) <| p_ (Kept.then_ (S:=(fun ak=>dA ak)) iw hkp (fun ak hs_=>(fun e_=>(bn.out.1 ak e_.symm)) hs_)) <| a_ (hb);(try clear hb);(try clear hkp);(try clear e9)))
   go_meet
   case rel=>exact ⟨_,(DN),H',⟨(by have:=y9.out;have:=kS.out;have:=Kw.out;first|omega|exact Nat.le_refl _)⟩,⟨(aN bn)⟩,⟨iw⟩,⟨ay⟩⟩
  case rest =>
  clear gx;obtain ⟨kq,ab,HA,QS,bn,HK,HB⟩:=hcut;cases kq with
  | zero=>exact absurd HA.out (by simp [dS.j7])
  | succ amr =>
  obtain ⟨H⟩:=HA;simp only [dS.j7] at H
  have hs:=m_ H;clear H;go_upto_region 41 with (fail)
  go_cut [199] (fun aoJ wc=>∃ (kq:Nat) (cj:Bool),aoJ=.bool cj∧aA (dS.j8 kq ab a1 a3 a4 (wrap64 ((IntKind.u64.wrap (wrap64 (a1+a3))) / 2)) a8 (wrap64 ((wrap64 ((wrap64 ((IntKind.u64.wrap (wrap64 (a1+a3))) / 2))+a2)) - a8)) cj=some r)∧aA (kq≤amr)∧aA (Kd.R aS 43 wc w0.heap.size (fun ak=>(dA ak∨w.heap.size≤ak)) gX ab)∧aA (Kept w wc (fun ak=>dA ak))∧aA (Below w0.heap.size w0 wc))
  case first =>
   obtain ⟨H⟩:=hs;revert H;refine fB (fun d5 H=>?_) fun d5 H=>?_;rotate_left
   ·try simp only [aV,aZ,d5]
    have H':=m_ H;clear H;go_wp2
    go_meet
    case rel=>exact ⟨_,(false),bC,H',⟨(by have:=y9.out;have:=kS.out;have:=Kw.out;have:=QS.out;first|omega|exact Nat.le_refl _)⟩,⟨(aN bn)⟩,⟨iw⟩,⟨ay⟩⟩
   try simp only [aV,aZ,d5]
   have H':=m_ H;clear H;go_wp2
   go_meet
   case rel=>exact ⟨_,(decide (a8 < (wrap64 ((IntKind.u64.wrap (wrap64 (a1+a3))) / 2)))),bC,H',⟨(by have:=y9.out;have:=kS.out;have:=Kw.out;have:=QS.out;first|omega|exact Nat.le_refl _)⟩,⟨(aN bn)⟩,⟨iw⟩,⟨ay⟩⟩
  case rest =>
  clear hs;obtain ⟨kq,cj,rfl,HA,aeJ,bn,HK,HB⟩:=hcut;cases kq with
  | zero=>exact absurd HA.out (by simp [dS.j8])
  | succ PN =>
  obtain ⟨H⟩:=HA;simp only [dS.j8] at H
  by_cases lk:cj=true
  rotate_left
  ·replace lk:=Bool.eq_false_iff.mpr lk;subst lk;rw [if_neg iF] at H;revert H;refine fB (fun l8 H=>?_) fun l8 H=>?_;rotate_left
   ·obtain rfl:=bQ H;go_wp2
    first|go_end0|((try simp only [Exit.inBlock,Exit.then]);refine bodyPost_ret (results_none rfl _ _ _) rfl ?_)
    exact ⟨bK,(aN bn),ay,iw⟩
   revert H;refine fB (fun FK H=>?_) fun FK H=>?_;rotate_left
   ·obtain rfl:=bQ H;go_wp2
    first|go_end0|((try simp only [Exit.inBlock,Exit.then]);refine bodyPost_ret (results_none rfl _ _ _) rfl ?_)
    exact ⟨bK,(aN bn),ay,iw⟩
   obtain ⟨m2,n4,H⟩:=bd_ H;obtain rfl:=bQ H;obtain ⟨hy,i1,m3⟩:=Kd.dN bn.out;subst m3;go_wp2_with (first|((with_reducible refine cu 133 ?_);refine cO (some 219) rfl rfl func133 aC rfl #[.slice hy ab.length i1,ah (wrap64 ((IntKind.u64.wrap (wrap64 (a1+a3))) / 2)),ah (wrap64 ((wrap64 ((wrap64 ((IntKind.u64.wrap (wrap64 (a1+a3))) / 2))+a2)) - a8)),ah a3,.func (.func 48) #[] #[]] rfl bJ ?_;(with_reducible refine (ih PN Qi (fun ak=>some ak=(.slice hy ab.length i1:Value).ownBlock) (.slice hy ab.length i1) ab (wrap64 ((IntKind.u64.wrap (wrap64 (a1+a3))) / 2)) (wrap64 ((wrap64 ((wrap64 ((IntKind.u64.wrap (wrap64 (a1+a3))) / 2))+a2)) - a8)) a3 a4 m2 w0 _ ay (Kd.rH rfl bn.out) n4.out).mono ?_);rintro e nh ⟨rfl,e9,hb,hkp⟩;refine ⟨_,rfl,?_⟩;obtain ⟨bn,HK,HB⟩:=p_ (Kd.uV rfl e9 (fun ak e_=>bn.out.1 ak e_)) <| p_ (Kept.then_ (S:=(fun ak=>dA ak)) iw hkp (fun ak hs_=>(fun e_=>(bn.out.1 ak e_.symm)) hs_)) <| a_ (hb);(try clear hb);(try clear hkp);(try clear e9)))
   first|go_end0|((try simp only [Exit.inBlock,Exit.then]);refine bodyPost_ret (results_none rfl _ _ _) rfl ?_)
   exact ⟨bK,(aN bn),ay,iw⟩
  subst lk;rw [if_pos rfl] at H;obtain ⟨i2,m7,H⟩:=bd_ H;revert H;refine fB (fun la H=>?_) fun la H=>?_;rotate_left
  ·obtain rfl:=bQ H;obtain ⟨i3,i4,m4⟩:=Kd.dN bn.out;subst m4;go_wp2_with (first|((with_reducible refine cu 133 ?_);refine cO (some 205) rfl rfl func133 aC rfl #[.slice i3 ab.length i4,ah a1,ah a8,ah (wrap64 ((IntKind.u64.wrap (wrap64 (a1+a3))) / 2)),.func (.func 48) #[] #[]] rfl bJ ?_;(with_reducible refine (ih PN Qi (fun ak=>some ak=(.slice i3 ab.length i4:Value).ownBlock) (.slice i3 ab.length i4) ab a1 a8 (wrap64 ((IntKind.u64.wrap (wrap64 (a1+a3))) / 2)) a4 i2 w0 _ ay (Kd.rH rfl bn.out) m7.out).mono ?_);rintro e PW ⟨rfl,e9,hb,hkp⟩;refine ⟨_,rfl,?_⟩;obtain ⟨bn,HK,HB⟩:=p_ (Kd.uV rfl e9 (fun ak e_=>bn.out.1 ak e_)) <| p_ (Kept.then_ (S:=(fun ak=>dA ak)) iw hkp (fun ak hs_=>(fun e_=>(bn.out.1 ak e_.symm)) hs_)) <| a_ (hb);(try clear hb);(try clear hkp);(try clear e9)))
   first|go_end0|((try simp only [Exit.inBlock,Exit.then]);refine bodyPost_ret (results_none rfl _ _ _) rfl ?_)
   exact ⟨bK,(aN bn),ay,iw⟩
  have lc:=m_ H;clear H;obtain ⟨el,em,m5⟩:=Kd.dN bn.out;subst m5;go_upto_if 213 with (first|((with_reducible refine cu 133 ?_);refine cO (some 205) rfl rfl func133 aC rfl #[.slice el ab.length em,ah a1,ah a8,ah (wrap64 ((IntKind.u64.wrap (wrap64 (a1+a3))) / 2)),.func (.func 48) #[] #[]] rfl bJ ?_;(with_reducible refine (ih PN Qi (fun ak=>some ak=(.slice el ab.length em:Value).ownBlock) (.slice el ab.length em) ab a1 a8 (wrap64 ((IntKind.u64.wrap (wrap64 (a1+a3))) / 2)) a4 i2 w0 _ ay (Kd.rH rfl bn.out) m7.out).mono ?_);rintro e nj ⟨rfl,e9,hb,hkp⟩;refine ⟨_,rfl,?_⟩;obtain ⟨bn,HK,HB⟩:=p_ (Kd.uV rfl e9 (fun ak e_=>bn.out.1 ak e_)) <| p_ (Kept.then_ (S:=(fun ak=>dA ak)) iw hkp (fun ak hs_=>(fun e_=>(bn.out.1 ak e_.symm)) hs_)) <| a_ (hb);(try clear hb);(try clear hkp);(try clear e9)))
  (try simp only [fM])
  obtain ⟨H⟩:=lc;revert H;refine fB (fun dt H=>?_) fun dt H=>?_;rotate_left
  ·try simp only [aV,aZ,dt]
   obtain rfl:=bQ H;go_wp2
   first|go_end0|((try simp only [Exit.inBlock,Exit.then]);refine bodyPost_ret (results_none rfl _ _ _) rfl ?_)
   exact ⟨bK,(aN bn),ay,iw⟩
  try simp only [aV,aZ,dt]
  obtain ⟨m6,n5,H⟩:=bd_ H;obtain rfl:=bQ H;go_wp2_with (first|((with_reducible refine cu 133 ?_);refine cO (some 219) rfl rfl func133 aC rfl #[.slice el ab.length em,ah (wrap64 ((IntKind.u64.wrap (wrap64 (a1+a3))) / 2)),ah (wrap64 ((wrap64 ((wrap64 ((IntKind.u64.wrap (wrap64 (a1+a3))) / 2))+a2)) - a8)),ah a3,.func (.func 48) #[] #[]] rfl bJ ?_;(with_reducible refine (ih PN Qi (fun ak=>some ak=(.slice el ab.length em:Value).ownBlock) (.slice el ab.length em) i2 (wrap64 ((IntKind.u64.wrap (wrap64 (a1+a3))) / 2)) (wrap64 ((wrap64 ((wrap64 ((IntKind.u64.wrap (wrap64 (a1+a3))) / 2))+a2)) - a8)) a3 a4 m6 w0 _ ay (Kd.rH rfl bn.out) n5.out).mono ?_);rintro e nk ⟨rfl,e9,hb,hkp⟩;refine ⟨_,rfl,?_⟩;obtain ⟨bn,HK,HB⟩:=p_ (Kd.uV rfl e9 (fun ak e_=>bn.out.1 ak e_)) <| p_ (Kept.then_ (S:=(fun ak=>dA ak)) iw hkp (fun ak hs_=>(fun e_=>(bn.out.1 ak e_.symm)) hs_)) <| a_ (hb);(try clear hb);(try clear hkp);(try clear e9)))
  first|go_end0|((try simp only [Exit.inBlock,Exit.then]);refine bodyPost_ret (results_none rfl _ _ _) rfl ?_)
  exact ⟨bK,(aN bn),ay,iw⟩

end Go.Proofs.YthejdhjpbpamoaaGreatDoor.pU
