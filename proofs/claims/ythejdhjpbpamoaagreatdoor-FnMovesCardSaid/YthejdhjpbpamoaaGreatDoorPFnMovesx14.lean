/- Contracts of Go functions: each call returns what the Lean function beside it computes. Conditions: as each theorem states them. -/
import Derived.Test.YthejdhjpbpamoaaGreatDoorPkFnMoves
import Derived.Test.YthejdhjpbpamoaaGreatDoorPFnMovesx1
import Derived.Test.YthejdhjpbpamoaaGreatDoorPFnMovesx2
import Derived.Test.YthejdhjpbpamoaaGreatDoorPFnMovesx5
import Derived.Test.YthejdhjpbpamoaaGreatDoorPFnMovesx10
import Derived.Test.YthejdhjpbpamoaaGreatDoorPFnMovesx13
namespace Go.Proofs.YthejdhjpbpamoaaGreatDoor.jM
open Go.RowKit Go.Proofs.YthejdhjpbpamoaaGreatDoorW.iK Go.Proofs.YthejdhjpbpamoaaGreatDoorW.lX Go.Proofs.YthejdhjpbpamoaaGreatDoorW.oV Go.Proofs.Tryz
attribute [local go_sem] qI qM qL qP qK qO qJ qN   -- for this text's walks alone
set_option linter.unusedVariables false
set_option maxHeartbeats 8000000
set_option maxRecDepth 100000
set_option linter.unusedSimpArgs false

def uN.f (k:Nat) (aX:List Int) (dW:Int) (dX:Int) (ab:Int) (ac:Int) (ae:Int) (af:Int):Option ((List (aC)) × Int × Int):=(qp.f k aX dW dX ab ac ae af).bind fun a6=>((nG.f aX a6.2.1 a6.2.2 10).bind fun a5=>(if a5.1=0 then ((Au.f aX a5.2.1 a5.2.2).bind fun a7=>((wE.f aX a7.2.1 a7.2.2 2).bind fun a8=>(if a6.1.length < 3518437208883 then (some ((a6.1++[(⟨a7.1,a8.1,(⟨#[]⟩:ByteArray)⟩:aC)]),a8.2.1,a8.2.2)) else (none)))) else (if a5.1=1 then ((rY.f aX a5.2.1 a5.2.2).bind fun a9=>((oM.f aX a9.2.1 a9.2.2 (([128,129,33]:List Int))).bind fun aa=>((qZ.f k aa.1 97).bind fun ag=>((ji.f k a6.1 a9.1 false ag).bind fun aP=>(some (aP,aa.2.1,aa.2.2)))))) else (if a5.1=2 then ((qo.f k a6.1 (⟨#[47,97]⟩:ByteArray)).bind fun ai=>(some (ai,a5.2.1,a5.2.2))) else (some (a6.1,a5.2.1,a5.2.2))))))
def uN.T4:Bool × List (List Nat × List Nat):=(true,[([],[]),([0],[0]),([],[]),([2],[2]),([],[]),([4,3],[4]),([3,5],[3,5]),([6],[6]),([1,7,5],[1,7]),([0,1,2,3,4,5,6,7,8],[]),([9,8,8,0,1,2,3,4,5,6,7,8],[8,9])])
def uN.B4:List Nat:=[0,1,0,4,0,28,60,124,255,511,1023]
def uN.T6:Bool × List (List Nat × List Nat):=(true,[([],[]),([],[]),([1],[1]),([],[]),([],[]),([3,4,2],[3,4]),([5,5],[5]),([2,6],[2,6]),([0,7,6],[0,7]),([8,8,0,1,2,3,4,5,6,7,8],[8])])
def uN.B6:List Nat:=[0,0,2,0,0,30,62,126,255,511]
theorem uN.calls (k:Nat) (g:Nat) (aX:List Int) (dW:Int) (dX:Int) (fH:Int) (fG:Int) (fE:Int) (af:Int) (r1:List (aC)) (r2:Int) (r3:Int) (w0 w:World) (hI:aJ w0 w g aX dW dX) (hB:Below w0.heap.size w0 w) (h:uN.f k aX dW dX fH fG fE af=some (r1,r2,r3)) :
  Calls Tryz.prog 41 #[.pointer (some ⟨g,0,none⟩),.agg #[ah fH,ah fG,ah fE,ah af]] w fun e w'=>∃ gQ:Value,e=.returned (.agg #[gQ])∧Kd.R bF 43 w' w.heap.size (fun _=>True) gQ r1∧aJ w0 w' g aX r2 r3∧Below w0.heap.size w0 w'∧aQ w w' g none:=by
 have w_:=underlying25
 have oq:=underlying28
 have rF:=underlying43
 have HI0:=m_ hI
 have HK:=m_ (aQ.refl w g none)
 have HL:=m_ hB.size
 clear hI
 have HW0:=m_ hB.size
 have HB:=m_ hB
 clear hB
 unfold uN.f at h
 have H:=h
 clear h
 obtain ⟨⟨ab,aN,aT⟩,A3,H⟩:=bd_ H
 try dsimp -simprocs only at H
 obtain ⟨⟨az,an,ao⟩,A4,H⟩:=bd_ H
 try dsimp -simprocs only at H
 revert H;refine fJ (fun c5 H=>?_) fun c5 H=>?_
 ·have cl:=gZ c5
  have cm:=g_ c5
  clear c5
  obtain ⟨⟨ba,fK,bo⟩,A6,H⟩:=bd_ H
  try dsimp -simprocs only at H
  obtain ⟨⟨bb,bp,bq⟩,A7,H⟩:=bd_ H
  try dsimp -simprocs only at H
  obtain ⟨c8,H⟩:=lG H
  have cn:=m_ c8
  clear c8
  obtain ⟨bv,bc⟩:∃ y_:List (aC),y_=(ab++[(⟨ba,bb,(⟨#[]⟩:ByteArray)⟩:aC)]):=⟨_,rfl⟩
  rw [← bc] at H
  have bw:=m_ bc
  clear bc
  simp only [Option.some.injEq,Prod.mk.injEq] at H
  obtain ⟨rfl,rfl,rfl⟩:=H
  go_enter func41,ntmps41
  try go_wp2_with (first|((with_reducible refine dG 3 ?_);refine dU 3 (cs:=#[ah fH,ah fG,ah fE,ah af]) 25 ?_;intro a7 hg w9 hbox hb;have eP:=p_ (aJ.below aZ hb) <| p_ (aQ.trans iI (aQ.of_below hb g none) (.inl rfl)) <| p_ (dI dA hb) <| p_ (hbox) <| p_ ((by rw [hg];exact (gY (w:=w) (g:=g) (row:=none) iI):w.heap.size≤a7)) <| p_ ((Nat.le_trans HW0.out (by rw [hg];exact (gY (w:=w) (g:=g) (row:=none) iI):w.heap.size≤a7):w0.heap.size≤a7)) <| p_ ((by rw [hg];exact Nat.ne_of_lt (aJ.lt (show aJ w0 _ g aX dW dX from aZ)):g≠a7)) <| a_ ((by rw [hg];exact Nat.ne_of_gt (aJ.lt (show aJ w0 _ g aX dW dX from aZ)):a7≠g));clear HI0 HK HB;obtain ⟨HI0,HK,HB,gy,Ef,Lj,Cj,a8⟩:=eP;clear hb hbox hg)|((with_reducible refine dG 4 ?_);refine dU 4 (cs:=#[.slice none 0 0]) 28 ?_;intro a5 hg dq hbox hb;have eP:=p_ (aJ.below aZ hb) <| p_ (bG (aj gy) hb) <| p_ (aQ.trans xX (aQ.of_below hb g none) (.inl rfl)) <| p_ (dI dA hb) <| p_ (hbox) <| p_ ((by rw [hg];exact (gY (w:=w) (g:=g) (row:=none) xX):w.heap.size≤a5)) <| p_ ((Nat.le_trans HW0.out (by rw [hg];exact (gY (w:=w) (g:=g) (row:=none) xX):w.heap.size≤a5):w0.heap.size≤a5)) <| p_ (kW hg (fO (aj gy))) <| p_ (kU hg (fO (aj gy))) <| p_ ((by rw [hg];exact Nat.ne_of_lt (aJ.lt (show aJ w0 _ g aX dW dX from aZ)):g≠a5)) <| a_ ((by rw [hg];exact Nat.ne_of_gt (aJ.lt (show aJ w0 _ g aX dW dX from aZ)):a5≠g));clear HI0 gy HK HB;obtain ⟨HI0,gy,HK,HB,iC,F5,Ll,ag,aP,Cm,a9⟩:=eP;clear hb hbox hg;obtain ⟨ar,bP,b0,b1⟩:=jE ag aP a8 Cj;have db:=jQ gy.out)|((with_reducible refine bU 88 ?_);refine bV (some 8) rfl rfl func88 aB rfl #[.pointer (some ⟨g,0,none⟩),.agg #[ah fH,ah fG,ah fE,ah af]] rfl aW ?_;(with_reducible refine (qp.calls k g aX dW dX fH fG fE af ab aN aT w0 _ aZ dA A3.out).mono ?_);rintro e dr ⟨Qa,rfl,ho0,hi,hb,hk⟩;refine ⟨_,rfl,?_⟩;obtain ⟨gy,iC,jf,HK,HB,HI0⟩:=p_ (aQ.blk hk (g':=a7) (o:=.cells #[ah fH,ah fG,ah fE,ah af] 25) (aj gy) a8.out (by simp)) <| p_ (aQ.blk hk (g':=a5) (o:=.cells #[.slice none 0 0] 28) (aj iC) a9.out (by simp)) <| p_ (Kd.dK ho0 (gY (w:=w) (g:=g) (row:=none) r_)) <| p_ (aQ.trans r_ hk (.inl rfl)) <| p_ (hb) <| a_ (hi);(try clear hb);(try clear hk);(try clear hi);(try clear ho0))|((with_reducible refine dG 5 ?_);refine dU 5 (cs:=#[.slice none 0 0]) 28 ?_;intro a6 hg dt hbox hb;have eP:=p_ (Kd.bn (aG jf) hb) <| p_ (aJ.below aZ hb) <| p_ (bG (aj gy) hb) <| p_ (bG (aj iC) hb) <| p_ (aQ.trans r_ (aQ.of_below hb g none) (.inl rfl)) <| p_ (dI dA hb) <| p_ (hbox) <| p_ ((by rw [hg];exact (gY (w:=w) (g:=g) (row:=none) r_):w.heap.size≤a6)) <| p_ ((Nat.le_trans HW0.out (by rw [hg];exact (gY (w:=w) (g:=g) (row:=none) r_):w.heap.size≤a6):w0.heap.size≤a6)) <| p_ (kW hg (fO (aj gy))) <| p_ (kU hg (fO (aj gy))) <| p_ (kW hg (fO (aj iC))) <| p_ (kU hg (fO (aj iC))) <| p_ ((by rw [hg];exact Nat.ne_of_lt (aJ.lt (show aJ w0 _ g aX aN aT from aZ)):g≠a6)) <| a_ ((by rw [hg];exact Nat.ne_of_gt (aJ.lt (show aJ w0 _ g aX aN aT from aZ)):a6≠g));clear jf HI0 gy iC HK HB;obtain ⟨jf,HI0,gy,iC,HK,HB,iQ,IZ,Lm,CQ,ai,AX,ac,CB,aa⟩:=eP;clear hb hbox hg;obtain ⟨b2,b3,co⟩:=Kd.dJ jf.out;subst co;obtain ⟨av,aw,d4,d5,b4,b5⟩:=kL ai CQ ac AX aa CB;have FX:=cu iQ.out)|((with_reducible refine bU 87 ?_);refine bV (some 10) rfl rfl func87 aB rfl #[.pointer (some ⟨g,0,none⟩),ah 10] rfl aW ?_;(with_reducible refine (nG.calls g aX aN aT 10 az an ao w0 _ aZ dA A4.out).mono ?_);rintro e dd ⟨rfl,hi,hb,hk⟩;refine ⟨_,rfl,?_⟩;obtain ⟨gy,iC,jf,iQ,HK,HB,HI0⟩:=p_ (aQ.blk hk (g':=a7) (o:=.cells #[ah fH,ah fG,ah fE,ah af] 25) bH a8.out (by simp)) <| p_ (aQ.blk hk (g':=a5) (o:=.cells #[.slice none 0 0] 28) bH a9.out (by simp)) <| p_ (Kd.bW (Kd.lY (aJ.apart (show aJ w0 _ g aX aN aT from aZ) KP (by decide)) hk (fun _ h=>h.2)) (fun _ h=>h.1)) <| p_ (aQ.blk hk (g':=a6) (o:=.cells #[.slice b2 ab.length b3] 28) KH aa.out (by simp)) <| p_ (aQ.trans pI hk (.inl rfl)) <| p_ (hb) <| a_ (hi);(try clear hb);(try clear hk);(try clear hi)))
  obtain ⟨jf,gy,iC,iQ,HI0,HK,HB⟩:=p_ (Kd.bK jf.out) <| p_ (gW gy.out) <| p_ (gW iC.out) <| p_ (gW iQ.out) <| p_ (aJ.drew HI0.out) <| p_ (uX HK.out) <| a_ (k_ HB.out)
  refine iH (n:=11) (S:=fun w'=>w'.cell? ⟨a6,0,none⟩=some (.slice b2 ab.length b3)) (ds:=[10]) EF aB rfl rfl ((aO iQ.out 0).trans rfl) (fun hH=>?_);refine jC (T:=uN.T4) (B:=uN.B4) aB aB (fun aS gJ=>?_)
  generalize dd.drew=du at jf gy iC iQ HI0 HK HB hH ⊢
  refine eY 0 13 Y2 aS ?_
  refine eY 2 15 YL aS ?_
  refine eY 4 17 YM aS ?_
  refine ng (i:=1) (N:=some 14) (v:=?_) (a':=?_) YN rfl rfl (AA aS.out gJ.out aB) (fun _ _ _ h=>h) (Or.inl ⟨(by rfl),?_⟩) hH ?_ ?_
  rotate_left
  ·intro w' s0
   go_simp
   with_reducible rfl
  rotate_left
  ·simp only [Act.put,List.setIfInBounds_toArray,List.set_cons_zero,List.set_cons_succ,bI,bY]
   rfl
  refine gB (i:=3) (N:=some 16) Y3 rfl rfl (jW aS.out aB) (by decide) (fun K hK=>?_)
  refine iR func89 aB rfl #[.pointer (some ⟨g,0,none⟩)] (by rfl) rfl rfl aW ?_
  with_reducible refine (Au.calls g aX an ao ba fK bo w0 _ aZ dA A6.out).mono ?_
  rintro e dv ⟨rfl,hi,hb,hk⟩
  refine ⟨_,rfl,?_⟩
  obtain ⟨gy,iC,jf,iQ,HK,HB,HI0⟩:=p_ (aQ.blk hk (g':=a7) (o:=.cells #[ah fH,ah fG,ah fE,ah af] 25) (aj gy) a8.out (by simp)) <| p_ (aQ.blk hk (g':=a5) (o:=.cells #[.slice none 0 0] 28) (aj iC) a9.out (by simp)) <| p_ (Kd.bW (Kd.lY (aJ.apart (show aJ w0 _ g aX an ao from aZ) (aG jf) (by decide)) hk (fun _ h=>h.2)) (fun _ h=>h.1)) <| p_ (aQ.blk hk (g':=a6) (o:=.cells #[.slice b2 ab.length b3] 28) (aj iQ) aa.out (by simp)) <| p_ (aQ.trans pI hk (.inl rfl)) <| p_ (hb) <| a_ (hi)
  (try clear hb)
  (try clear hk)
  (try clear hi)
  refine hK.out _ _ ((aO iQ.out 0).trans rfl) (fun hH=>?_)
  clear hK K
  refine fD (some 16) ?_
  refine gB (i:=5) (N:=some 18) Y4 rfl rfl (jW aS.out aB) (by decide) (fun K hK=>?_)
  refine iR func42 aB rfl #[.pointer (some ⟨g,0,none⟩),ah 2] (by rfl) rfl rfl aW ?_
  with_reducible refine (wE.calls g aX fK bo 2 bb bp bq w0 _ aZ dA A7.out).mono ?_
  rintro e lZ ⟨rfl,hi,hb,hk⟩
  refine ⟨_,rfl,?_⟩
  obtain ⟨gy,iC,jf,iQ,HK,HB,HI0⟩:=p_ (aQ.blk hk (g':=a7) (o:=.cells #[ah fH,ah fG,ah fE,ah af] 25) (aj gy) a8.out (by simp)) <| p_ (aQ.blk hk (g':=a5) (o:=.cells #[.slice none 0 0] 28) (aj iC) a9.out (by simp)) <| p_ (Kd.bW (Kd.lY (aJ.apart (show aJ w0 _ g aX fK bo from aZ) (aG jf) (by decide)) hk (fun _ h=>h.2)) (fun _ h=>h.1)) <| p_ (aQ.blk hk (g':=a6) (o:=.cells #[.slice b2 ab.length b3] 28) (aj iQ) aa.out (by simp)) <| p_ (aQ.trans pI hk (.inl rfl)) <| p_ (hb) <| a_ (hi)
  (try clear hb)
  (try clear hk)
  (try clear hi)
  refine hK.out _ _ ((aO iQ.out 0).trans rfl) (fun hH=>?_)
  clear hK K
  refine fD (some 18) ?_
  refine eY 6 19 Y5 aS ?_
  refine gB (i:=7) (N:=some 20) YX rfl rfl (jW aS.out aB) (by decide) (fun K hK=>?_)
  refine KW (w1:=?_) (v:=?_) (by rfl) rfl ?_ ?_
  rotate_left 2
  ·go_simp
   constructor
   ·rfl
   ·rfl
  refine hK.out _ _ ((aO (jG iQ.out _) 0).trans rfl) (fun hH=>?_)
  clear hK K
  refine fD (some 20) ?_
  refine gB (i:=8) (N:=some 21) YZ rfl rfl (jW aS.out aB) (by decide) (fun K hK=>?_)
  refine Kd.Je bF w.heap.size (by rfl) (.tmp 14) (.tmp 20) 26 43 (.agg #[(.string ⟨#[]⟩),(.bool false),(.string ⟨#[]⟩)]) 40 rfl underlying26 o8 rfl (by decide) (by omega) (.slice b2 ab.length b3) ab (⟨ba,bb,(⟨#[]⟩:ByteArray)⟩:aC) [.string ba,.bool bb,.string (⟨#[]⟩:ByteArray)] (fun _=>True) (fun _=>False) rfl rfl ?rD (fun _ hk=>hk.elim) ?kS ?ku (Below.refl _ _) ?kC ?aL ?_
  (case rD=>exact qX _ _ _ (⟨ba,bb,(⟨#[]⟩:ByteArray)⟩:aC))
  (case kS=>exact (fun _ _=>trivial))
  (case ku=>exact (aG jf))
  (case kC=>exact (gY (w:=w) (g:=g) (row:=none) pI))
  (case aL=>have:=cn.out;omega)
  intro ajA de ho hb hg hat
  rw [← bw.out] at ho
  obtain ⟨HI0,gy,iC,iQ,HB,HK,bj⟩:=p_ (aJ.grown (show aJ w0 _ g aX bp bq from aZ) hg (aJ.own_ne HI0.out jf.out (by decide))) <| p_ (iE (g:=a7) (o:=.cells #[ah fH,ah fG,ah fE,ah af] 25) (aj gy) hg (Kd.iw jf.out gy.out (by decide))) <| p_ (iE (g:=a5) (o:=.cells #[.slice none 0 0] 28) (aj iC) hg (Kd.iw jf.out iC.out (by decide))) <| p_ (iE (g:=a6) (o:=.cells #[.slice b2 ab.length b3] 28) (aj iQ) hg (Kd.iw jf.out iQ.out (by decide))) <| p_ (Q_ dA HL.out hb) <| p_ (aQ.trans pI (aQ.Bv hg g) (Kd.QM jf.out)) <| a_ (ho)
  clear ho hb hg hat
  obtain ⟨cp,cq,bx⟩:=Kd.dJ bj.out
  (first|subst bx|(injection bx with dP fZ dQ;have f_:=dP.symm;have gq:=dQ.symm;clear dP fZ dQ;subst f_;subst gq))
  refine hK.out _ _ ((aO iQ.out 0).trans rfl) (fun hH=>?_)
  clear hK K
  refine fD (some 21) ?_
  refine eY 9 22 Y0 aS ?_
  refine OG (i:=10) (N:=none) Y1 rfl rfl (jW aS.out aB) (by decide) (fun K hK=>?_)
  have agX:de.cell? ⟨a6,0,none⟩=some (.slice b2 ab.length b3):=(aO iQ.out 0).trans rfl
  have aeY:=dF iQ.out 0
  obtain ⟨ap,aq⟩:=iJ AX ac
  refine jr (w1:=?_) (by rfl) rfl ?_ ?_
  rotate_left
  ·go_simp
   rfl
  refine hK.out _ _ ?_
  clear hK K
  refine iF (jB aS.out aB) ?_
  have La:=cu iQ.out
  obtain ⟨b6,b7⟩:=iJ a9 Cm
  have XB:=cu iC.out
  try go_wp2
  refine bodyPost_ret (results_cell_row rfl _ _ a5 28 #[.slice cp bv.length cq] (0,0) _ rfl bH underlying28 rfl aB) rfl ?_
  exact ⟨_,b_,(by (with_reducible repeat (first|apply Kd.dR|apply Kd.dS|apply Kd.bK));exact Kd.bW (aU (aU (Kd.dL (Kd.dL bj.out iQ.out (by decide)) iC.out (by decide)) (fun _ hk=>hk.1.2))) (fun _ hk=>trivial)),aZ,dA,pI⟩
 have cl:=gU c5
 have cm:=gV c5
 revert H;refine fJ (fun br H=>?_) fun br H=>?_
 rotate_left
 ·have bz:=gU br
  have ca:=gV br
  revert H;refine fJ (fun bs H=>?_) fun bs H=>?_
  rotate_left
  ·have cc:=gU bs
   have cd:=gV bs
   simp only [Option.some.injEq,Prod.mk.injEq] at H
   obtain ⟨rfl,rfl,rfl⟩:=H
   go_enter func41,ntmps41
   go_wp2_with (first|((with_reducible refine dG 3 ?_);refine dU 3 (cs:=#[ah fH,ah fG,ah fE,ah af]) 25 ?_;intro a7 hg dx hbox hb;have eP:=p_ (aJ.below aZ hb) <| p_ (aQ.trans iI (aQ.of_below hb g none) (.inl rfl)) <| p_ (dI dA hb) <| p_ (hbox) <| p_ ((by rw [hg];exact (gY (w:=w) (g:=g) (row:=none) iI):w.heap.size≤a7)) <| p_ ((Nat.le_trans HW0.out (by rw [hg];exact (gY (w:=w) (g:=g) (row:=none) iI):w.heap.size≤a7):w0.heap.size≤a7)) <| p_ ((by rw [hg];exact Nat.ne_of_lt (aJ.lt (show aJ w0 _ g aX dW dX from aZ)):g≠a7)) <| a_ ((by rw [hg];exact Nat.ne_of_gt (aJ.lt (show aJ w0 _ g aX dW dX from aZ)):a7≠g));clear HI0 HK HB;obtain ⟨HI0,HK,HB,gy,Ef,Lj,Cj,a8⟩:=eP;clear hb hbox hg)|((with_reducible refine dG 4 ?_);refine dU 4 (cs:=#[.slice none 0 0]) 28 ?_;intro a5 hg dy hbox hb;have eP:=p_ (aJ.below aZ hb) <| p_ (bG (aj gy) hb) <| p_ (aQ.trans xX (aQ.of_below hb g none) (.inl rfl)) <| p_ (dI dA hb) <| p_ (hbox) <| p_ ((by rw [hg];exact (gY (w:=w) (g:=g) (row:=none) xX):w.heap.size≤a5)) <| p_ ((Nat.le_trans HW0.out (by rw [hg];exact (gY (w:=w) (g:=g) (row:=none) xX):w.heap.size≤a5):w0.heap.size≤a5)) <| p_ (kW hg (fO (aj gy))) <| p_ (kU hg (fO (aj gy))) <| p_ ((by rw [hg];exact Nat.ne_of_lt (aJ.lt (show aJ w0 _ g aX dW dX from aZ)):g≠a5)) <| a_ ((by rw [hg];exact Nat.ne_of_gt (aJ.lt (show aJ w0 _ g aX dW dX from aZ)):a5≠g));clear HI0 gy HK HB;obtain ⟨HI0,gy,HK,HB,iC,F5,Ll,ag,aP,Cm,a9⟩:=eP;clear hb hbox hg;obtain ⟨ar,bP,b0,b1⟩:=jE ag aP a8 Cj;have df:=jQ gy.out)|((with_reducible refine bU 88 ?_);refine bV (some 8) rfl rfl func88 aB rfl #[.pointer (some ⟨g,0,none⟩),.agg #[ah fH,ah fG,ah fE,ah af]] rfl aW ?_;(with_reducible refine (qp.calls k g aX dW dX fH fG fE af ab aN aT w0 _ aZ dA A3.out).mono ?_);rintro e dz ⟨Qa,rfl,ho0,hi,hb,hk⟩;refine ⟨_,rfl,?_⟩;obtain ⟨gy,iC,jf,HK,HB,HI0⟩:=p_ (aQ.blk hk (g':=a7) (o:=.cells #[ah fH,ah fG,ah fE,ah af] 25) (aj gy) a8.out (by simp)) <| p_ (aQ.blk hk (g':=a5) (o:=.cells #[.slice none 0 0] 28) (aj iC) a9.out (by simp)) <| p_ (Kd.dK ho0 (gY (w:=w) (g:=g) (row:=none) r_)) <| p_ (aQ.trans r_ hk (.inl rfl)) <| p_ (hb) <| a_ (hi);(try clear hb);(try clear hk);(try clear hi);(try clear ho0))|((with_reducible refine dG 5 ?_);refine dU 5 (cs:=#[.slice none 0 0]) 28 ?_;intro a6 hg e0 hbox hb;have eP:=p_ (Kd.bn (aG jf) hb) <| p_ (aJ.below aZ hb) <| p_ (bG (aj gy) hb) <| p_ (bG (aj iC) hb) <| p_ (aQ.trans r_ (aQ.of_below hb g none) (.inl rfl)) <| p_ (dI dA hb) <| p_ (hbox) <| p_ ((by rw [hg];exact (gY (w:=w) (g:=g) (row:=none) r_):w.heap.size≤a6)) <| p_ ((Nat.le_trans HW0.out (by rw [hg];exact (gY (w:=w) (g:=g) (row:=none) r_):w.heap.size≤a6):w0.heap.size≤a6)) <| p_ (kW hg (fO (aj gy))) <| p_ (kU hg (fO (aj gy))) <| p_ (kW hg (fO (aj iC))) <| p_ (kU hg (fO (aj iC))) <| p_ ((by rw [hg];exact Nat.ne_of_lt (aJ.lt (show aJ w0 _ g aX aN aT from aZ)):g≠a6)) <| a_ ((by rw [hg];exact Nat.ne_of_gt (aJ.lt (show aJ w0 _ g aX aN aT from aZ)):a6≠g));clear jf HI0 gy iC HK HB;obtain ⟨jf,HI0,gy,iC,HK,HB,iQ,IZ,Lm,CQ,ai,AX,ac,CB,aa⟩:=eP;clear hb hbox hg;obtain ⟨ce,cf,cr⟩:=Kd.dJ jf.out;subst cr;obtain ⟨av,aw,aq,ap,b4,b5⟩:=kL ai CQ ac AX aa CB;have ak1:=cu iQ.out)|((with_reducible refine bU 87 ?_);refine bV (some 10) rfl rfl func87 aB rfl #[.pointer (some ⟨g,0,none⟩),ah 10] rfl aW ?_;(with_reducible refine (nG.calls g aX aN aT 10 az an ao w0 _ aZ dA A4.out).mono ?_);rintro e e3 ⟨rfl,hi,hb,hk⟩;refine ⟨_,rfl,?_⟩;obtain ⟨gy,iC,jf,iQ,HK,HB,HI0⟩:=p_ (aQ.blk hk (g':=a7) (o:=.cells #[ah fH,ah fG,ah fE,ah af] 25) bH a8.out (by simp)) <| p_ (aQ.blk hk (g':=a5) (o:=.cells #[.slice none 0 0] 28) bH a9.out (by simp)) <| p_ (Kd.bW (Kd.lY (aJ.apart (show aJ w0 _ g aX aN aT from aZ) KP (by decide)) hk (fun _ h=>h.2)) (fun _ h=>h.1)) <| p_ (aQ.blk hk (g':=a6) (o:=.cells #[.slice ce ab.length cf] 28) KH aa.out (by simp)) <| p_ (aQ.trans pI hk (.inl rfl)) <| p_ (hb) <| a_ (hi);(try clear hb);(try clear hk);(try clear hi);have ak2:=cu iQ.out;obtain ⟨b6,b7⟩:=iJ a9 Cm;have ak4:=cu iC.out))
   refine bodyPost_ret (results_cell_row rfl _ _ a5 28 #[.slice ce ab.length cf] (0,0) _ rfl bH underlying28 rfl aB) rfl ?_
   exact ⟨_,b_,(by (with_reducible repeat (first|apply Kd.dR|apply Kd.dS|apply Kd.bK));exact Kd.bW (aU (Kd.dL jf.out iC.out (by decide))) (fun _ hk=>trivial)),aZ,dA,pI⟩
  have cc:=gZ bs
  have cd:=g_ bs
  clear bs
  obtain ⟨cg,dg,H⟩:=bd_ H
  simp only [Option.some.injEq,Prod.mk.injEq] at H
  obtain ⟨rfl,rfl,rfl⟩:=H
  go_enter func41,ntmps41
  go_wp2_with (first|((with_reducible refine dG 3 ?_);refine dU 3 (cs:=#[ah fH,ah fG,ah fE,ah af]) 25 ?_;intro a7 hg e4 hbox hb;have eP:=p_ (aJ.below aZ hb) <| p_ (aQ.trans iI (aQ.of_below hb g none) (.inl rfl)) <| p_ (dI dA hb) <| p_ (hbox) <| p_ ((by rw [hg];exact (gY (w:=w) (g:=g) (row:=none) iI):w.heap.size≤a7)) <| p_ ((Nat.le_trans HW0.out (by rw [hg];exact (gY (w:=w) (g:=g) (row:=none) iI):w.heap.size≤a7):w0.heap.size≤a7)) <| p_ ((by rw [hg];exact Nat.ne_of_lt (aJ.lt (show aJ w0 _ g aX dW dX from aZ)):g≠a7)) <| a_ ((by rw [hg];exact Nat.ne_of_gt (aJ.lt (show aJ w0 _ g aX dW dX from aZ)):a7≠g));clear HI0 HK HB;obtain ⟨HI0,HK,HB,gy,Ef,Lj,Cj,a8⟩:=eP;clear hb hbox hg)|((with_reducible refine dG 4 ?_);refine dU 4 (cs:=#[.slice none 0 0]) 28 ?_;intro a5 hg e5 hbox hb;have eP:=p_ (aJ.below aZ hb) <| p_ (bG (aj gy) hb) <| p_ (aQ.trans xX (aQ.of_below hb g none) (.inl rfl)) <| p_ (dI dA hb) <| p_ (hbox) <| p_ ((by rw [hg];exact (gY (w:=w) (g:=g) (row:=none) xX):w.heap.size≤a5)) <| p_ ((Nat.le_trans HW0.out (by rw [hg];exact (gY (w:=w) (g:=g) (row:=none) xX):w.heap.size≤a5):w0.heap.size≤a5)) <| p_ (kW hg (fO (aj gy))) <| p_ (kU hg (fO (aj gy))) <| p_ ((by rw [hg];exact Nat.ne_of_lt (aJ.lt (show aJ w0 _ g aX dW dX from aZ)):g≠a5)) <| a_ ((by rw [hg];exact Nat.ne_of_gt (aJ.lt (show aJ w0 _ g aX dW dX from aZ)):a5≠g));clear HI0 gy HK HB;obtain ⟨HI0,gy,HK,HB,iC,F5,Ll,ag,aP,Cm,a9⟩:=eP;clear hb hbox hg;obtain ⟨d6,d7,b0,b1⟩:=jE ag aP a8 Cj;have lg:=jQ gy.out)|((with_reducible refine bU 88 ?_);refine bV (some 8) rfl rfl func88 aB rfl #[.pointer (some ⟨g,0,none⟩),.agg #[ah fH,ah fG,ah fE,ah af]] rfl aW ?_;(with_reducible refine (qp.calls k g aX dW dX fH fG fE af ab aN aT w0 _ aZ dA A3.out).mono ?_);rintro e e6 ⟨Qa,rfl,ho0,hi,hb,hk⟩;refine ⟨_,rfl,?_⟩;obtain ⟨gy,iC,jf,HK,HB,HI0⟩:=p_ (aQ.blk hk (g':=a7) (o:=.cells #[ah fH,ah fG,ah fE,ah af] 25) (aj gy) a8.out (by simp)) <| p_ (aQ.blk hk (g':=a5) (o:=.cells #[.slice none 0 0] 28) (aj iC) a9.out (by simp)) <| p_ (Kd.dK ho0 (gY (w:=w) (g:=g) (row:=none) r_)) <| p_ (aQ.trans r_ hk (.inl rfl)) <| p_ (hb) <| a_ (hi);(try clear hb);(try clear hk);(try clear hi);(try clear ho0))|((with_reducible refine dG 5 ?_);refine dU 5 (cs:=#[.slice none 0 0]) 28 ?_;intro a6 hg e7 hbox hb;have eP:=p_ (Kd.bn (aG jf) hb) <| p_ (aJ.below aZ hb) <| p_ (bG (aj gy) hb) <| p_ (bG (aj iC) hb) <| p_ (aQ.trans r_ (aQ.of_below hb g none) (.inl rfl)) <| p_ (dI dA hb) <| p_ (hbox) <| p_ ((by rw [hg];exact (gY (w:=w) (g:=g) (row:=none) r_):w.heap.size≤a6)) <| p_ ((Nat.le_trans HW0.out (by rw [hg];exact (gY (w:=w) (g:=g) (row:=none) r_):w.heap.size≤a6):w0.heap.size≤a6)) <| p_ (kW hg (fO (aj gy))) <| p_ (kU hg (fO (aj gy))) <| p_ (kW hg (fO (aj iC))) <| p_ (kU hg (fO (aj iC))) <| p_ ((by rw [hg];exact Nat.ne_of_lt (aJ.lt (show aJ w0 _ g aX aN aT from aZ)):g≠a6)) <| a_ ((by rw [hg];exact Nat.ne_of_gt (aJ.lt (show aJ w0 _ g aX aN aT from aZ)):a6≠g));clear jf HI0 gy iC HK HB;obtain ⟨jf,HI0,gy,iC,HK,HB,iQ,IZ,Lm,CQ,ai,AX,ac,CB,aa⟩:=eP;clear hb hbox hg;obtain ⟨ch,ci,ct⟩:=Kd.dJ jf.out;subst ct;obtain ⟨d8,d9,aq,ap,b4,b5⟩:=kL ai CQ ac AX aa CB;have ady:=cu iQ.out)|((with_reducible refine bU 87 ?_);refine bV (some 10) rfl rfl func87 aB rfl #[.pointer (some ⟨g,0,none⟩),ah 10] rfl aW ?_;(with_reducible refine (nG.calls g aX aN aT 10 az an ao w0 _ aZ dA A4.out).mono ?_);rintro e e8 ⟨rfl,hi,hb,hk⟩;refine ⟨_,rfl,?_⟩;obtain ⟨gy,iC,jf,iQ,HK,HB,HI0⟩:=p_ (aQ.blk hk (g':=a7) (o:=.cells #[ah fH,ah fG,ah fE,ah af] 25) bH a8.out (by simp)) <| p_ (aQ.blk hk (g':=a5) (o:=.cells #[.slice none 0 0] 28) bH a9.out (by simp)) <| p_ (Kd.bW (Kd.lY (aJ.apart (show aJ w0 _ g aX aN aT from aZ) KP (by decide)) hk (fun _ h=>h.2)) (fun _ h=>h.1)) <| p_ (aQ.blk hk (g':=a6) (o:=.cells #[.slice ch ab.length ci] 28) KH aa.out (by simp)) <| p_ (aQ.trans pI hk (.inl rfl)) <| p_ (hb) <| a_ (hi);(try clear hb);(try clear hk);(try clear hi);have adz:=cu iQ.out)|((with_reducible refine bU 77 ?_);refine bV (some 37) rfl rfl func77 aB rfl #[.agg #[.slice ch ab.length ci],.string (⟨#[47,97]⟩:ByteArray)] rfl aW ?_;(with_reducible refine (qo.calls k _ _ ab (⟨#[47,97]⟩:ByteArray) cg _ Xh ((Kd.bZ jf.out).2.1) dg.out).mono ?_);rintro e e9 ⟨ajC,rfl,ho0,hb⟩;refine ⟨_,rfl,?_⟩;obtain ⟨jf,bl,HI0,gy,iC,iQ,HK,HB⟩:=p_ (Kd.iY (aG jf) (Kd.iW ho0) hb) <| p_ (Kd.dK (Kd.iZ ho0 (Kd.iD (aG jf))) (gY (w:=w) (g:=g) (row:=none) pI)) <| p_ (aJ.below aZ hb) <| p_ (bG (aj gy) hb) <| p_ (bG (aj iC) hb) <| p_ (bG (aj iQ) hb) <| p_ (aQ.trans pI (aQ.of_below hb g none) (.inl rfl)) <| a_ (dI dA hb);(try clear hb);(try clear hk);(try clear hi);(try clear ho0);obtain ⟨jg,cv,cw⟩:=Kd.dJ bl.out;subst cw;have akW:=cu iQ.out;obtain ⟨b6,b7⟩:=iJ a9 Cm;have adB:=cu iC.out))
  refine bodyPost_ret (results_cell_row rfl _ _ a5 28 #[.slice jg cg.length cv] (0,0) _ rfl bH underlying28 rfl aB) rfl ?_
  exact ⟨_,b_,(by (with_reducible repeat (first|apply Kd.dR|apply Kd.dS|apply Kd.bK));exact Kd.bW (aU (aU (Kd.dL (Kd.dL bl.out iQ.out (by decide)) iC.out (by decide)) (fun _ hk=>hk.1.2))) (fun _ hk=>trivial)),aZ,dA,pI⟩
 have bz:=gZ br
 have ca:=g_ br
 clear br
 obtain ⟨⟨b9,ax,dw⟩,da,H⟩:=bd_ H
 try dsimp -simprocs only at H
 obtain ⟨bd,be⟩:∃ y_:List Int,y_=(([128,129,33]:List Int)):=⟨_,rfl⟩
 rw [← be] at H
 have b8:=m_ be
 clear be
 obtain ⟨⟨bu,cx,cy⟩,di,H⟩:=bd_ H
 try dsimp -simprocs only at H
 obtain ⟨dM,dj,H⟩:=bd_ H
 obtain ⟨bh,dk,H⟩:=bd_ H
 simp only [Option.some.injEq,Prod.mk.injEq] at H
 obtain ⟨rfl,rfl,rfl⟩:=H
 go_enter func41,ntmps41
 try go_wp2_with (first|((with_reducible refine dG 3 ?_);refine dU 3 (cs:=#[ah fH,ah fG,ah fE,ah af]) 25 ?_;intro a7 hg ea hbox hb;have eP:=p_ (aJ.below aZ hb) <| p_ (aQ.trans iI (aQ.of_below hb g none) (.inl rfl)) <| p_ (dI dA hb) <| p_ (hbox) <| p_ ((by rw [hg];exact (gY (w:=w) (g:=g) (row:=none) iI):w.heap.size≤a7)) <| p_ ((Nat.le_trans HW0.out (by rw [hg];exact (gY (w:=w) (g:=g) (row:=none) iI):w.heap.size≤a7):w0.heap.size≤a7)) <| p_ ((by rw [hg];exact Nat.ne_of_lt (aJ.lt (show aJ w0 _ g aX dW dX from aZ)):g≠a7)) <| a_ ((by rw [hg];exact Nat.ne_of_gt (aJ.lt (show aJ w0 _ g aX dW dX from aZ)):a7≠g));clear HI0 HK HB;obtain ⟨HI0,HK,HB,gy,Ef,Lj,Cj,a8⟩:=eP;clear hb hbox hg)|((with_reducible refine dG 4 ?_);refine dU 4 (cs:=#[.slice none 0 0]) 28 ?_;intro a5 hg eb hbox hb;have eP:=p_ (aJ.below aZ hb) <| p_ (bG (aj gy) hb) <| p_ (aQ.trans xX (aQ.of_below hb g none) (.inl rfl)) <| p_ (dI dA hb) <| p_ (hbox) <| p_ ((by rw [hg];exact (gY (w:=w) (g:=g) (row:=none) xX):w.heap.size≤a5)) <| p_ ((Nat.le_trans HW0.out (by rw [hg];exact (gY (w:=w) (g:=g) (row:=none) xX):w.heap.size≤a5):w0.heap.size≤a5)) <| p_ (kW hg (fO (aj gy))) <| p_ (kU hg (fO (aj gy))) <| p_ ((by rw [hg];exact Nat.ne_of_lt (aJ.lt (show aJ w0 _ g aX dW dX from aZ)):g≠a5)) <| a_ ((by rw [hg];exact Nat.ne_of_gt (aJ.lt (show aJ w0 _ g aX dW dX from aZ)):a5≠g));clear HI0 gy HK HB;obtain ⟨HI0,gy,HK,HB,iC,F5,Ll,ag,aP,Cm,a9⟩:=eP;clear hb hbox hg;obtain ⟨ar,bP,b0,b1⟩:=jE ag aP a8 Cj;have dl:=jQ gy.out)|((with_reducible refine bU 88 ?_);refine bV (some 8) rfl rfl func88 aB rfl #[.pointer (some ⟨g,0,none⟩),.agg #[ah fH,ah fG,ah fE,ah af]] rfl aW ?_;(with_reducible refine (qp.calls k g aX dW dX fH fG fE af ab aN aT w0 _ aZ dA A3.out).mono ?_);rintro e ec ⟨Qa,rfl,ho0,hi,hb,hk⟩;refine ⟨_,rfl,?_⟩;obtain ⟨gy,iC,jf,HK,HB,HI0⟩:=p_ (aQ.blk hk (g':=a7) (o:=.cells #[ah fH,ah fG,ah fE,ah af] 25) (aj gy) a8.out (by simp)) <| p_ (aQ.blk hk (g':=a5) (o:=.cells #[.slice none 0 0] 28) (aj iC) a9.out (by simp)) <| p_ (Kd.dK ho0 (gY (w:=w) (g:=g) (row:=none) r_)) <| p_ (aQ.trans r_ hk (.inl rfl)) <| p_ (hb) <| a_ (hi);(try clear hb);(try clear hk);(try clear hi);(try clear ho0))|((with_reducible refine dG 5 ?_);refine dU 5 (cs:=#[.slice none 0 0]) 28 ?_;intro a6 hg ed hbox hb;have eP:=p_ (Kd.bn (aG jf) hb) <| p_ (aJ.below aZ hb) <| p_ (bG (aj gy) hb) <| p_ (bG (aj iC) hb) <| p_ (aQ.trans r_ (aQ.of_below hb g none) (.inl rfl)) <| p_ (dI dA hb) <| p_ (hbox) <| p_ ((by rw [hg];exact (gY (w:=w) (g:=g) (row:=none) r_):w.heap.size≤a6)) <| p_ ((Nat.le_trans HW0.out (by rw [hg];exact (gY (w:=w) (g:=g) (row:=none) r_):w.heap.size≤a6):w0.heap.size≤a6)) <| p_ (kW hg (fO (aj gy))) <| p_ (kU hg (fO (aj gy))) <| p_ (kW hg (fO (aj iC))) <| p_ (kU hg (fO (aj iC))) <| p_ ((by rw [hg];exact Nat.ne_of_lt (aJ.lt (show aJ w0 _ g aX aN aT from aZ)):g≠a6)) <| a_ ((by rw [hg];exact Nat.ne_of_gt (aJ.lt (show aJ w0 _ g aX aN aT from aZ)):a6≠g));clear jf HI0 gy iC HK HB;obtain ⟨jf,HI0,gy,iC,HK,HB,iQ,IZ,Lm,CQ,ai,AX,ac,CB,aa⟩:=eP;clear hb hbox hg;obtain ⟨al,am,cz⟩:=Kd.dJ jf.out;subst cz;obtain ⟨av,aw,aq,ap,b4,b5⟩:=kL ai CQ ac AX aa CB;have akI:=cu iQ.out)|((with_reducible refine bU 87 ?_);refine bV (some 10) rfl rfl func87 aB rfl #[.pointer (some ⟨g,0,none⟩),ah 10] rfl aW ?_;(with_reducible refine (nG.calls g aX aN aT 10 az an ao w0 _ aZ dA A4.out).mono ?_);rintro e dm ⟨rfl,hi,hb,hk⟩;refine ⟨_,rfl,?_⟩;obtain ⟨gy,iC,jf,iQ,HK,HB,HI0⟩:=p_ (aQ.blk hk (g':=a7) (o:=.cells #[ah fH,ah fG,ah fE,ah af] 25) bH a8.out (by simp)) <| p_ (aQ.blk hk (g':=a5) (o:=.cells #[.slice none 0 0] 28) bH a9.out (by simp)) <| p_ (Kd.bW (Kd.lY (aJ.apart (show aJ w0 _ g aX aN aT from aZ) KP (by decide)) hk (fun _ h=>h.2)) (fun _ h=>h.1)) <| p_ (aQ.blk hk (g':=a6) (o:=.cells #[.slice al ab.length am] 28) KH aa.out (by simp)) <| p_ (aQ.trans pI hk (.inl rfl)) <| p_ (hb) <| a_ (hi);(try clear hb);(try clear hk);(try clear hi)))
 obtain ⟨jf,gy,iC,iQ,HI0,HK,HB⟩:=p_ (Kd.bK jf.out) <| p_ (gW gy.out) <| p_ (gW iC.out) <| p_ (gW iQ.out) <| p_ (aJ.drew HI0.out) <| p_ (uX HK.out) <| a_ (k_ HB.out)
 refine iH (n:=10) (S:=fun w'=>w'.cell? ⟨a6,0,none⟩=some (.slice al ab.length am)) (ds:=[9]) MO aB rfl rfl ((aO iQ.out 0).trans rfl) (fun hH=>?_);refine jC (T:=uN.T6) (B:=uN.B6) aB aB (fun aS gJ=>?_)
 generalize dm.drew=ee at jf gy iC iQ HI0 HK HB hH ⊢
 refine eY 1 26 MP aS ?_
 refine eY 3 28 MQ aS ?_
 refine ng (i:=0) (N:=some 25) (v:=?_) (a':=?_) #[ak,ak,F_,ak,F_,F_,F_,F_,F_,F_] rfl rfl (AA aS.out gJ.out aB) (fun _ _ _ h=>h) (Or.inl ⟨(by rfl),?_⟩) hH ?_ ?_
 rotate_left
 ·intro w' s0
  go_simp
  with_reducible rfl
 rotate_left
 ·simp only [Act.put,List.setIfInBounds_toArray,List.set_cons_zero,List.set_cons_succ,bI,bY]
  rfl
 refine H_ (σ:=Value) 5 MX (fun s_=>[(27,.string b9),(29,s_)]) (fun s_ w'=>(w'.cell? ⟨a6,0,none⟩=some (.slice al ab.length am))∧(Kd.R bF 43 w' w.heap.size (fun _=>True) (.slice al ab.length am) ab)∧(Kd.R (Kd.int .i64) 3 w' w.heap.size (fun _=>True) s_ bd)∧(w'.heap[a7]?=some (.cells #[ah fH,ah fG,ah fE,ah af] 25))∧(w'.heap[a5]?=some (.cells #[.slice none 0 0] 28))∧(w'.heap[a6]?=some (.cells #[.slice al ab.length am] 28))∧(aJ w0 w' g aX ax dw)∧(aQ w w' g none)∧(Below w0.heap.size w0 w')) ?_ ?_
 rotate_left
 ·intro uf
  refine AO (i:=2) (j:=4) (Ni:=some 27) (yt:=some 29) #[ak,ak,ak,ak,F_,F_,F_,F_,F_,F_] #[ak,ak,F_,ak,ak,F_,F_,F_,F_,F_] rfl rfl rfl rfl (AP aS.out aB) (by decide) (by decide) (fun K hK=>?_) (fun K hK=>?_)
  ·skip
   refine iR func44 aB rfl #[.pointer (some ⟨g,0,none⟩)] (by rfl) rfl rfl aW ?_
   with_reducible refine (rY.calls g aX an ao b9 ax dw w0 _ aZ dA da.out).mono ?_
   rintro e kM ⟨rfl,hi,hb,hk⟩
   refine ⟨_,rfl,?_⟩
   obtain ⟨gy,iC,jf,iQ,HK,HB,HI0⟩:=p_ (aQ.blk hk (g':=a7) (o:=.cells #[ah fH,ah fG,ah fE,ah af] 25) (aj gy) a8.out (by simp)) <| p_ (aQ.blk hk (g':=a5) (o:=.cells #[.slice none 0 0] 28) (aj iC) a9.out (by simp)) <| p_ (Kd.bW (Kd.lY (aJ.apart (show aJ w0 _ g aX an ao from aZ) (aG jf) (by decide)) hk (fun _ h=>h.2)) (fun _ h=>h.1)) <| p_ (aQ.blk hk (g':=a6) (o:=.cells #[.slice al ab.length am] 28) (aj iQ) aa.out (by simp)) <| p_ (aQ.trans pI hk (.inl rfl)) <| p_ (hb) <| a_ (hi)
   (try clear hb)
   (try clear hk)
   (try clear hi)
   refine hK.out _ _ ((aO iQ.out 0).trans rfl) (fun hH=>?_)
   clear hK K
   refine fD (some 27) ?_
   refine gB (i:=4) (N:=some 29) MX rfl rfl (jW aS.out aB) (by decide) (fun K hK=>?_)
   refine Kd.xH (Kd.int .i64) _ 3 ?hg (N:=29) ?hd (xs:=([128,129,33]:List Int)) (inner:=[ah 128,ah 129,ah 33]) (ok:=fun _=>True) (iT:=fun _=>True) ?hr ?hp (fun _ hk=>hk) trivial (Below.refl _ _) (Nat.le_refl _) (by simp) ?_;(case hd=>rfl);(case hg=>rfl);(case hr=>first|(go_simp;done)|(go_simp;rfl));(case hp=>exact WU)
   intro IV ef Hf hb jc jd
   clear jc jd
   (first|rw [← b8.out] at Hf|(simp only [Int.reduceToNat] at Hf;rw [← b8.out] at Hf))
   obtain ⟨jf,ae,HI0,gy,iC,iQ,HK,HB⟩:=p_ (Kd.bn (aG jf) hb) <| p_ (Kd.dK Hf (gY (w:=w) (g:=g) (row:=none) pI)) <| p_ (aJ.below aZ hb) <| p_ (bG (aj gy) hb) <| p_ (bG (aj iC) hb) <| p_ (bG (aj iQ) hb) <| p_ (aQ.trans pI (aQ.of_below hb g none) (.inl rfl)) <| a_ (dI dA hb)
   clear hb Hf
   refine hK.out _ _ ((aO iQ.out 0).trans rfl) (fun hH=>?_)
   clear hK K
   refine fD (some 29) ?_
   exact rW wF (uf (IV) _ ⟨hH,(aG jf),(aG ae),(aj gy),(aj iC),(aj iQ),aZ,pI,dA⟩)
  ·skip
   refine Kd.xH (Kd.int .i64) _ 3 ?hg (N:=29) ?hd (xs:=([128,129,33]:List Int)) (inner:=[ah 128,ah 129,ah 33]) (ok:=fun _=>True) (iT:=fun _=>True) ?hr ?hp (fun _ hk=>hk) trivial (Below.refl _ _) (Nat.le_refl _) (by simp) ?_;(case hd=>rfl);(case hg=>rfl);(case hr=>first|(go_simp;done)|(go_simp;rfl));(case hp=>exact WU)
   intro IV kM He hb jc jd
   clear jc jd
   (first|rw [← b8.out] at He|(simp only [Int.reduceToNat] at He;rw [← b8.out] at He))
   obtain ⟨jf,ae,HI0,gy,iC,iQ,HK,HB⟩:=p_ (Kd.bn (aG jf) hb) <| p_ (Kd.dK He (gY (w:=w) (g:=g) (row:=none) pI)) <| p_ (aJ.below aZ hb) <| p_ (bG (aj gy) hb) <| p_ (bG (aj iC) hb) <| p_ (bG (aj iQ) hb) <| p_ (aQ.trans pI (aQ.of_below hb g none) (.inl rfl)) <| a_ (dI dA hb)
   clear hb He
   refine hK.out _ _ ((aO iQ.out 0).trans rfl) (fun hH=>?_)
   clear hK K
   refine fD (some 29) ?_
   refine gB (i:=2) (N:=some 27) MX rfl rfl (jW aS.out aB) (by decide) (fun K hK=>?_)
   refine iR func44 aB rfl #[.pointer (some ⟨g,0,none⟩)] (by rfl) rfl rfl aW ?_
   with_reducible refine (rY.calls g aX an ao b9 ax dw w0 _ aZ dA da.out).mono ?_
   rintro e eh ⟨rfl,hi,hb,hk⟩
   refine ⟨_,rfl,?_⟩
   obtain ⟨gy,iC,jf,iQ,ae,HK,HB,HI0⟩:=p_ (aQ.blk hk (g':=a7) (o:=.cells #[ah fH,ah fG,ah fE,ah af] 25) (aj gy) a8.out (by simp)) <| p_ (aQ.blk hk (g':=a5) (o:=.cells #[.slice none 0 0] 28) (aj iC) a9.out (by simp)) <| p_ (Kd.bW (Kd.lY (aJ.apart (show aJ w0 _ g aX an ao from aZ) (aG jf) (by decide)) hk (fun _ h=>h.2)) (fun _ h=>h.1)) <| p_ (aQ.blk hk (g':=a6) (o:=.cells #[.slice al ab.length am] 28) (aj iQ) aa.out (by simp)) <| p_ (Kd.bW (Kd.lY (aJ.apart (show aJ w0 _ g aX an ao from aZ) (aG ae) (by decide)) hk (fun _ h=>h.2)) (fun _ h=>h.1)) <| p_ (aQ.trans pI hk (.inl rfl)) <| p_ (hb) <| a_ (hi)
   (try clear hb)
   (try clear hk)
   (try clear hi)
   refine hK.out _ _ ((aO iQ.out 0).trans rfl) (fun hH=>?_)
   clear hK K
   refine fD (some 27) ?_
   exact rW wF (uf (IV) _ ⟨hH,(aG jf),(aG ae),(aj gy),(aj iC),(aj iQ),aZ,pI,dA⟩)
 rintro IV bi ⟨vJ,zT,zU,zV,zW,zX,zY,zZ,z_⟩
 obtain ⟨jf,ae,gy,iC,iQ,HI0,HK,HB⟩:=fM (⟨zT⟩:aA (Kd.R bF 43 bi w.heap.size (fun _=>True) (.slice al ab.length am) ab)) <| fM (⟨zU⟩:aA (Kd.R (Kd.int .i64) 3 bi w.heap.size (fun _=>True) IV bd)) <| fM (⟨zV⟩:aA (bi.heap[a7]?=some (.cells #[ah fH,ah fG,ah fE,ah af] 25))) <| fM (⟨zW⟩:aA (bi.heap[a5]?=some (.cells #[.slice none 0 0] 28))) <| fM (⟨zX⟩:aA (bi.heap[a6]?=some (.cells #[.slice al ab.length am] 28))) <| fM (⟨zY⟩:aA (aJ w0 bi g aX ax dw)) <| fM (⟨zZ⟩:aA (aQ w bi g none)) <| (⟨z_⟩:aA (Below w0.heap.size w0 bi))
 have hH:bi.cell? ⟨a6,0,none⟩=some (.slice al ab.length am):=vJ
 obtain ⟨d0,d1,cj⟩:=Kd.dJ ae.out
 (first|subst cj|(injection cj with dP fZ dQ;have f_:=dP.symm;have gq:=dQ.symm;clear dP fZ dQ;subst f_;subst gq))
 refine rW (a':=?_) ?_ ?_
 rotate_left
 ·simp only [Aj,Act.put,List.setIfInBounds_toArray,List.set_cons_zero,List.set_cons_succ]
  rfl
 refine gB (i:=5) (N:=some 30) #[ak,ak,ak,ak,ak,ak,F_,F_,F_,F_] rfl rfl (jW aS.out aB) (by decide) (fun K hK=>?_)
 refine iR func92 aB rfl #[.pointer (some ⟨g,0,none⟩),.slice d0 bd.length d1] (by rfl) rfl rfl aW ?_
 with_reducible refine (oM.calls g aX ax dw _ _ bd bu cx cy w0 _ aZ dA ?mJ ((Kd.bZ ae.out).2.1) (wV (aJ.own_ne HI0.out ae.out (by decide))) di.out).mono ?_
 (case mJ=>repeat (first|exact (Kd.bZ ae.out).2.2|(with_reducible refine Kd.jJ ?_ _)|(with_reducible refine Kd.jL ?_ _)|(with_reducible refine Kd.jK ?_)))
 rintro e ei ⟨rfl,hi,hb,hk⟩
 refine ⟨_,rfl,?_⟩
 obtain ⟨gy,iC,jf,iQ,ae,HK,HB,HI0⟩:=p_ (aQ.blk hk (g':=a7) (o:=.cells #[ah fH,ah fG,ah fE,ah af] 25) (aj gy) a8.out (by simp)) <| p_ (aQ.blk hk (g':=a5) (o:=.cells #[.slice none 0 0] 28) (aj iC) a9.out (by simp)) <| p_ (Kd.bW (Kd.lY (aJ.apart (show aJ w0 _ g aX ax dw from aZ) (aG jf) (by decide)) hk (fun _ h=>h.2)) (fun _ h=>h.1)) <| p_ (aQ.blk hk (g':=a6) (o:=.cells #[.slice al ab.length am] 28) (aj iQ) aa.out (by simp)) <| p_ (Kd.bW (Kd.lY (aJ.apart (show aJ w0 _ g aX ax dw from aZ) (aG ae) (by decide)) hk (fun _ h=>h.2)) (fun _ h=>h.1)) <| p_ (aQ.trans pI hk (.inl rfl)) <| p_ (hb) <| a_ (hi)
 (try clear hb)
 (try clear hk)
 (try clear hi)
 refine hK.out _ _ ((aO iQ.out 0).trans rfl) (fun hH=>?_)
 clear hK K
 refine fD (some 30) ?_
 refine gB (i:=6) (N:=some 31) MR rfl rfl (jW aS.out aB) (by decide) (fun K hK=>?_)
 refine iR func91 aB rfl #[ah bu,.int .u8 97] (by rfl) rfl rfl aW ?_
 with_reducible refine (qZ.calls k bu 97 dM _ dj.out).mono ?_
 rintro e ej ⟨rfl,hb⟩
 refine ⟨_,rfl,?_⟩
 obtain ⟨jf,ae,HI0,gy,iC,iQ,HK,HB⟩:=p_ (Kd.bn (aG jf) hb) <| p_ (Kd.bn (aG ae) hb) <| p_ (aJ.below aZ hb) <| p_ (bG (aj gy) hb) <| p_ (bG (aj iC) hb) <| p_ (bG (aj iQ) hb) <| p_ (aQ.trans pI (aQ.of_below hb g none) (.inl rfl)) <| a_ (dI dA hb)
 (try clear hb)
 refine hK.out _ _ ((aO iQ.out 0).trans rfl) (fun hH=>?_)
 clear hK K
 refine fD (some 31) ?_
 refine eY 7 32 zO aS ?_
 refine gB (i:=8) (N:=some 33) MS rfl rfl (jW aS.out aB) (by decide) (fun K hK=>?_)
 refine iR func90 aB rfl #[.agg #[.slice al ab.length am],.agg #[.string b9,.bool false,.string dM]] (by rfl) rfl rfl aW ?_
 with_reducible refine (ji.calls k _ _ ab b9 false dM bh _ Xh ((Kd.bZ jf.out).2.1) dk.out).mono ?_
 rintro e dp ⟨ajB,rfl,ho0,hb⟩
 refine ⟨_,rfl,?_⟩
 obtain ⟨jf,ae,bm,HI0,gy,iC,iQ,HK,HB⟩:=p_ (Kd.iY (aG jf) (Kd.iW ho0) hb) <| p_ (Kd.bn (aG ae) hb) <| p_ (Kd.dK (Kd.iZ ho0 (Kd.iD (aG jf))) (gY (w:=w) (g:=g) (row:=none) pI)) <| p_ (aJ.below aZ hb) <| p_ (bG (aj gy) hb) <| p_ (bG (aj iC) hb) <| p_ (bG (aj iQ) hb) <| p_ (aQ.trans pI (aQ.of_below hb g none) (.inl rfl)) <| a_ (dI dA hb)
 (try clear hb)
 (try clear ho0)
 obtain ⟨d2,d3,ck⟩:=Kd.dJ bm.out
 (first|subst ck|(injection ck with dP fZ dQ;have f_:=dP.symm;have gq:=dQ.symm;clear dP fZ dQ;subst f_;subst gq))
 refine hK.out _ _ ((aO iQ.out 0).trans rfl) (fun hH=>?_)
 clear hK K
 refine fD (some 33) ?_
 refine OG (i:=9) (N:=none) MV rfl rfl (jW aS.out aB) (by decide) (fun K hK=>?_)
 have ahI:dp.cell? ⟨a6,0,none⟩=some (.slice al ab.length am):=(aO iQ.out 0).trans rfl
 have afJ:=dF iQ.out 0
 refine jr (w1:=?_) (by rfl) rfl ?_ ?_
 rotate_left
 ·go_simp
  rfl
 refine hK.out _ _ ?_
 clear hK K
 refine iF (jB aS.out aB) ?_
 have XC:=cu iQ.out
 obtain ⟨b6,b7⟩:=iJ a9 Cm
 have adu:=cu iC.out
 try go_wp2
 refine bodyPost_ret (results_cell_row rfl _ _ a5 28 #[.slice d2 bh.length d3] (0,0) _ rfl bH underlying28 rfl aB) rfl ?_
 exact ⟨_,b_,(by (with_reducible repeat (first|apply Kd.dR|apply Kd.dS|apply Kd.bK));exact Kd.bW (aU (aU (Kd.dL (Kd.dL bm.out iQ.out (by decide)) iC.out (by decide)) (fun _ hk=>hk.1.2))) (fun _ hk=>trivial)),aZ,dA,pI⟩

def DZ.f (aX:List Int) (dW:Int) (dX:Int):Option (Int × Int × Int × Int × Int × Int):=(vO.f aX dW dX).bind fun a5=>((nG.f aX a5.2.2.2.2.1 a5.2.2.2.2.2 12).bind fun a6=>(if a6.1=0 then ((oM.f aX a6.2.1 a6.2.2 (([0,4,(-1),9223372036854775807]:List Int))).bind fun a7=>(some (a7.1,a5.2.1,a5.2.2.1,a5.2.2.2.1,a7.2.1,a7.2.2))) else (if a6.1=1 then ((oM.f aX a6.2.1 a6.2.2 (([4,5,12,13,(-1)]:List Int))).bind fun a8=>(some (a5.1,a8.1,a5.2.2.1,a5.2.2.2.1,a8.2.1,a8.2.2))) else (if a6.1=2 then ((oM.f aX a6.2.1 a6.2.2 (([1,2,6,7]:List Int))).bind fun a9=>(some (a5.1,a5.2.1,a9.1,a5.2.2.2.1,a9.2.1,a9.2.2))) else (if a6.1=3 then ((oM.f aX a6.2.1 a6.2.2 (([0,8,9,wrap64 (a5.2.1 - 4),wrap64 (a5.2.1 - 3)]:List Int))).bind fun aa=>(some (a5.1,a5.2.1,a5.2.2.1,aa.1,aa.2.1,aa.2.2))) else (some (a5.1,a5.2.1,a5.2.2.1,a5.2.2.2.1,a6.2.1,a6.2.2)))))))
theorem DZ.calls (g:Nat) (aX:List Int) (dW:Int) (dX:Int) (r1:Int) (r2:Int) (r3:Int) (r4:Int) (r5:Int) (r6:Int) (w0 w:World) (hI:aJ w0 w g aX dW dX) (hB:Below w0.heap.size w0 w) (h:DZ.f aX dW dX=some (r1,r2,r3,r4,r5,r6)) :
  Calls Tryz.prog 43 #[.pointer (some ⟨g,0,none⟩)] w fun e w'=>e=.returned (.agg #[ah r1,ah r2,ah r3,ah r4])∧aJ w0 w' g aX r5 r6∧Below w0.heap.size w0 w'∧aQ w w' g none:=by
 have w_:=underlying25
 have HI0:=m_ hI
 have HK:=m_ (aQ.refl w g none)
 have HL:=m_ hB.size
 clear hI
 have HW0:=m_ hB.size
 have HB:=m_ hB
 clear hB
 unfold DZ.f at h
 have H:=h
 clear h
 obtain ⟨⟨rJ,ou,tK,aa,ab,ac⟩,A2,H⟩:=bd_ H
 try dsimp -simprocs only at H
 obtain ⟨⟨am,ae,af⟩,A3,H⟩:=bd_ H
 try dsimp -simprocs only at H
 revert H;refine fJ (fun c4 H=>?_) fun c4 H=>?_
 ·have fK:=gZ c4
  have bo:=g_ c4
  clear c4
  obtain ⟨b5,ap⟩:∃ y_:List Int,y_=(([0,4,(-1),9223372036854775807]:List Int)):=⟨_,rfl⟩
  rw [← ap] at H
  have b1:=m_ ap
  clear ap
  obtain ⟨⟨bc,bp,bq⟩,A5,H⟩:=bd_ H
  try dsimp -simprocs only at H
  simp only [Option.some.injEq,Prod.mk.injEq] at H
  obtain ⟨rfl,rfl,rfl,rfl,rfl,rfl⟩:=H
  go_enter func43,ntmps43
  go_wp2_with (first|((with_reducible refine dG 2 ?_);refine dU 2 (cs:=#[ah 0,ah 0,ah 0,ah 0]) 25 ?_;intro a5 hg w6 hbox hb;have eP:=p_ (aJ.below aZ hb) <| p_ (aQ.trans iI (aQ.of_below hb g none) (.inl rfl)) <| p_ (dI dA hb) <| p_ (hbox) <| p_ ((by rw [hg];exact (gY (w:=w) (g:=g) (row:=none) iI):w.heap.size≤a5)) <| p_ ((Nat.le_trans HW0.out (by rw [hg];exact (gY (w:=w) (g:=g) (row:=none) iI):w.heap.size≤a5):w0.heap.size≤a5)) <| p_ ((by rw [hg];exact Nat.ne_of_lt (aJ.lt (show aJ w0 _ g aX dW dX from aZ)):g≠a5)) <| a_ ((by rw [hg];exact Nat.ne_of_gt (aJ.lt (show aJ w0 _ g aX dW dX from aZ)):a5≠g));clear HI0 HK HB;obtain ⟨HI0,HK,HB,je,Eh,IX,zJ,a6⟩:=eP;clear hb hbox hg)|((with_reducible refine bU 40 ?_);refine bV (some 5) rfl rfl func40 aB rfl #[.pointer (some ⟨g,0,none⟩)] rfl aW ?_;(with_reducible refine (vO.calls g aX dW dX rJ ou tK aa ab ac w0 _ aZ dA A2.out).mono ?_);rintro e w7 ⟨rfl,hi,hb,hk⟩;refine ⟨_,rfl,?_⟩;obtain ⟨je,HK,HB,HI0⟩:=p_ (aQ.blk hk (g':=a5) (o:=.cells #[ah 0,ah 0,ah 0,ah 0] 25) (aj je) a6.out (by simp)) <| p_ (aQ.trans su hk (.inl rfl)) <| p_ (hb) <| a_ (hi);(try clear hb);(try clear hk);(try clear hi))|((with_reducible refine dG 3 ?_);refine dU 3 (cs:=#[ah 0,ah 0,ah 0,ah 0]) 25 ?_;intro a7 hg w8 hbox hb;have eP:=p_ (aJ.below aZ hb) <| p_ (bG (aj je) hb) <| p_ (aQ.trans su (aQ.of_below hb g none) (.inl rfl)) <| p_ (dI dA hb) <| p_ (hbox) <| p_ ((by rw [hg];exact (gY (w:=w) (g:=g) (row:=none) su):w.heap.size≤a7)) <| p_ ((Nat.le_trans HW0.out (by rw [hg];exact (gY (w:=w) (g:=g) (row:=none) su):w.heap.size≤a7):w0.heap.size≤a7)) <| p_ (kW hg (fO (aj je))) <| p_ (kU hg (fO (aj je))) <| p_ ((by rw [hg];exact Nat.ne_of_lt (aJ.lt (show aJ w0 _ g aX ab ac from aZ)):g≠a7)) <| a_ ((by rw [hg];exact Nat.ne_of_gt (aJ.lt (show aJ w0 _ g aX ab ac from aZ)):a7≠g));clear HI0 je HK HB;obtain ⟨HI0,je,HK,HB,mg,F6,IY,zL,a9,zK,a8⟩:=eP;clear hb hbox hg;obtain ⟨ag,aP,an,ao⟩:=jE a9 zL a8 zK;have ct:=jQ mg.out)|((with_reducible refine bU 87 ?_);refine bV (some 7) rfl rfl func87 aB rfl #[.pointer (some ⟨g,0,none⟩),ah 12] rfl aW ?_;(with_reducible refine (nG.calls g aX ab ac 12 am ae af w0 _ aZ dA A3.out).mono ?_);rintro e dd ⟨rfl,hi,hb,hk⟩;refine ⟨_,rfl,?_⟩;obtain ⟨je,mg,HK,HB,HI0⟩:=p_ (aQ.blk hk (g':=a5) (o:=.cells #[ah 0,ah 0,ah 0,ah 0] 25) bH a6.out (by simp)) <| p_ (aQ.blk hk (g':=a7) (o:=.cells #[ah rJ,ah ou,ah tK,ah aa] 25) II a8.out (by simp)) <| p_ (aQ.trans q_ hk (.inl rfl)) <| p_ (hb) <| a_ (hi);(try clear hb);(try clear hk);(try clear hi))|((with_reducible refine dG 11 ?_);refine Kd.qV (Kd.int .i64) _ 3 ?hg (N:=11) ?hd (xs:=([0,4,(-1),9223372036854775807]:List Int)) (inner:=[ah 0,ah 4,ah (-1),ah 9223372036854775807]) (ok:=fun _=>True) (iT:=fun _=>True) ?hr ?hp (fun _ hk=>hk) trivial (Below.refl _ _) (Nat.le_refl _) (by simp) ?_;(case hd=>rfl);(case hg=>rfl);(case hr=>first|(go_simp;done)|(go_simp;rfl));(case hp=>exact (bM.one (show Kd.M (Kd.int .i64) _ _ _ 0 [ah 0] from rfl) (bM.one (show Kd.M (Kd.int .i64) _ _ _ 4 [ah 4] from rfl) (bM.one (show Kd.M (Kd.int .i64) _ _ _ (-1) [ah (-1)] from rfl) (bM.one (show Kd.M (Kd.int .i64) _ _ _ 9223372036854775807 [ah 9223372036854775807] from rfl) (bM.none _ _))))));intro ajD de G5 hb jc jd;clear jc jd;(first|rw [← b1.out] at G5|(simp only [Int.reduceToNat] at G5;rw [← b1.out] at G5));obtain ⟨ai,HI0,je,mg,HK,HB⟩:=p_ (Kd.dK G5 (gY (w:=w) (g:=g) (row:=none) q_)) <| p_ (aJ.below aZ hb) <| p_ (bG (aj je) hb) <| p_ (bG (aj mg) hb) <| p_ (aQ.trans q_ (aQ.of_below hb g none) (.inl rfl)) <| a_ (dI dA hb);clear hb G5;obtain ⟨br,bs,bu⟩:=Kd.dJ ai.out;subst bu)|((with_reducible refine bU 92 ?_);refine bV (some 12) rfl rfl func92 aB rfl #[.pointer (some ⟨g,0,none⟩),.slice br b5.length bs] rfl aW ?_;(with_reducible refine (oM.calls g aX ae af _ _ b5 bc bp bq w0 _ aZ dA ?mJ ((Kd.bZ ai.out).2.1) (wV (aJ.own_ne HI0.out ai.out (by decide))) A5.out).mono ?_);(case mJ=>repeat (first|exact (Kd.bZ ai.out).2.2|(with_reducible refine Kd.jJ ?_ _)|(with_reducible refine Kd.jL ?_ _)|(with_reducible refine Kd.jK ?_)));rintro e df ⟨rfl,hi,hb,hk⟩;refine ⟨_,rfl,?_⟩;obtain ⟨je,mg,ai,HK,HB,HI0⟩:=p_ (aQ.blk hk (g':=a5) (o:=.cells #[ah 0,ah 0,ah 0,ah 0] 25) (aj je) a6.out (by simp)) <| p_ (aQ.blk hk (g':=a7) (o:=.cells #[ah rJ,ah ou,ah tK,ah aa] 25) (aj mg) a8.out (by simp)) <| p_ (Kd.bW (Kd.lY (aJ.apart (show aJ w0 _ g aX ae af from aZ) (aG ai) (by decide)) hk (fun _ h=>h.2)) (fun _ h=>h.1)) <| p_ (aQ.trans q_ hk (.inl rfl)) <| p_ (hb) <| a_ (hi);(try clear hb);(try clear hk);(try clear hi);have jg:=jQ mg.out;obtain ⟨cm,cn⟩:=iJ a6 zJ;have cv:=jQ je.out))
  refine bodyPost_ret (results_cell_row rfl _ _ a5 25 #[ah bc,ah ou,ah tK,ah aa] (0,0) _ rfl bH underlying25 rfl aB) rfl ?_
  exact ⟨b_,aZ,dA,q_⟩
 have fK:=gU c4
 have bo:=gV c4
 revert H;refine fJ (fun b6 H=>?_) fun b6 H=>?_
 ·have bd:=gZ b6
  have be:=g_ b6
  clear b6
  obtain ⟨b7,ar⟩:∃ y_:List Int,y_=(([4,5,12,13,(-1)]:List Int)):=⟨_,rfl⟩
  rw [← ar] at H
  have b2:=m_ ar
  clear ar
  obtain ⟨⟨fF,bv,bw⟩,cw,H⟩:=bd_ H
  try dsimp -simprocs only at H
  simp only [Option.some.injEq,Prod.mk.injEq] at H
  obtain ⟨rfl,rfl,rfl,rfl,rfl,rfl⟩:=H
  go_enter func43,ntmps43
  go_wp2_with (first|((with_reducible refine dG 2 ?_);refine dU 2 (cs:=#[ah 0,ah 0,ah 0,ah 0]) 25 ?_;intro a5 hg dg hbox hb;have eP:=p_ (aJ.below aZ hb) <| p_ (aQ.trans iI (aQ.of_below hb g none) (.inl rfl)) <| p_ (dI dA hb) <| p_ (hbox) <| p_ ((by rw [hg];exact (gY (w:=w) (g:=g) (row:=none) iI):w.heap.size≤a5)) <| p_ ((Nat.le_trans HW0.out (by rw [hg];exact (gY (w:=w) (g:=g) (row:=none) iI):w.heap.size≤a5):w0.heap.size≤a5)) <| p_ ((by rw [hg];exact Nat.ne_of_lt (aJ.lt (show aJ w0 _ g aX dW dX from aZ)):g≠a5)) <| a_ ((by rw [hg];exact Nat.ne_of_gt (aJ.lt (show aJ w0 _ g aX dW dX from aZ)):a5≠g));clear HI0 HK HB;obtain ⟨HI0,HK,HB,je,Eh,IX,zJ,a6⟩:=eP;clear hb hbox hg)|((with_reducible refine bU 40 ?_);refine bV (some 5) rfl rfl func40 aB rfl #[.pointer (some ⟨g,0,none⟩)] rfl aW ?_;(with_reducible refine (vO.calls g aX dW dX rJ ou tK aa ab ac w0 _ aZ dA A2.out).mono ?_);rintro e lg ⟨rfl,hi,hb,hk⟩;refine ⟨_,rfl,?_⟩;obtain ⟨je,HK,HB,HI0⟩:=p_ (aQ.blk hk (g':=a5) (o:=.cells #[ah 0,ah 0,ah 0,ah 0] 25) (aj je) a6.out (by simp)) <| p_ (aQ.trans su hk (.inl rfl)) <| p_ (hb) <| a_ (hi);(try clear hb);(try clear hk);(try clear hi))|((with_reducible refine dG 3 ?_);refine dU 3 (cs:=#[ah 0,ah 0,ah 0,ah 0]) 25 ?_;intro a7 hg di hbox hb;have eP:=p_ (aJ.below aZ hb) <| p_ (bG (aj je) hb) <| p_ (aQ.trans su (aQ.of_below hb g none) (.inl rfl)) <| p_ (dI dA hb) <| p_ (hbox) <| p_ ((by rw [hg];exact (gY (w:=w) (g:=g) (row:=none) su):w.heap.size≤a7)) <| p_ ((Nat.le_trans HW0.out (by rw [hg];exact (gY (w:=w) (g:=g) (row:=none) su):w.heap.size≤a7):w0.heap.size≤a7)) <| p_ (kW hg (fO (aj je))) <| p_ (kU hg (fO (aj je))) <| p_ ((by rw [hg];exact Nat.ne_of_lt (aJ.lt (show aJ w0 _ g aX ab ac from aZ)):g≠a7)) <| a_ ((by rw [hg];exact Nat.ne_of_gt (aJ.lt (show aJ w0 _ g aX ab ac from aZ)):a7≠g));clear HI0 je HK HB;obtain ⟨HI0,je,HK,HB,mg,F6,IY,zL,a9,zK,a8⟩:=eP;clear hb hbox hg;obtain ⟨ag,aP,an,ao⟩:=jE a9 zL a8 zK;have cx:=jQ mg.out)|((with_reducible refine bU 87 ?_);refine bV (some 7) rfl rfl func87 aB rfl #[.pointer (some ⟨g,0,none⟩),ah 12] rfl aW ?_;(with_reducible refine (nG.calls g aX ab ac 12 am ae af w0 _ aZ dA A3.out).mono ?_);rintro e dj ⟨rfl,hi,hb,hk⟩;refine ⟨_,rfl,?_⟩;obtain ⟨je,mg,HK,HB,HI0⟩:=p_ (aQ.blk hk (g':=a5) (o:=.cells #[ah 0,ah 0,ah 0,ah 0] 25) bH a6.out (by simp)) <| p_ (aQ.blk hk (g':=a7) (o:=.cells #[ah rJ,ah ou,ah tK,ah aa] 25) II a8.out (by simp)) <| p_ (aQ.trans q_ hk (.inl rfl)) <| p_ (hb) <| a_ (hi);(try clear hb);(try clear hk);(try clear hi))|((with_reducible refine dG 17 ?_);refine Kd.qV (Kd.int .i64) _ 3 ?hg (N:=17) ?hd (xs:=([4,5,12,13,(-1)]:List Int)) (inner:=[ah 4,ah 5,ah 12,ah 13,ah (-1)]) (ok:=fun _=>True) (iT:=fun _=>True) ?hr ?hp (fun _ hk=>hk) trivial (Below.refl _ _) (Nat.le_refl _) (by simp) ?_;(case hd=>rfl);(case hg=>rfl);(case hr=>first|(go_simp;done)|(go_simp;rfl));(case hp=>exact (bM.one (show Kd.M (Kd.int .i64) _ _ _ 4 [ah 4] from rfl) (bM.one (show Kd.M (Kd.int .i64) _ _ _ 5 [ah 5] from rfl) (bM.one (show Kd.M (Kd.int .i64) _ _ _ 12 [ah 12] from rfl) (bM.one (show Kd.M (Kd.int .i64) _ _ _ 13 [ah 13] from rfl) (bM.one (show Kd.M (Kd.int .i64) _ _ _ (-1) [ah (-1)] from rfl) (bM.none _ _)))))));intro ajE dk G7 hb jc jd;clear jc jd;(first|rw [← b2.out] at G7|(simp only [Int.reduceToNat] at G7;rw [← b2.out] at G7));obtain ⟨aN,HI0,je,mg,HK,HB⟩:=p_ (Kd.dK G7 (gY (w:=w) (g:=g) (row:=none) q_)) <| p_ (aJ.below aZ hb) <| p_ (bG (aj je) hb) <| p_ (bG (aj mg) hb) <| p_ (aQ.trans q_ (aQ.of_below hb g none) (.inl rfl)) <| a_ (dI dA hb);clear hb G7;obtain ⟨bx,bz,ca⟩:=Kd.dJ aN.out;subst ca)|((with_reducible refine bU 92 ?_);refine bV (some 18) rfl rfl func92 aB rfl #[.pointer (some ⟨g,0,none⟩),.slice bx b7.length bz] rfl aW ?_;(with_reducible refine (oM.calls g aX ae af _ _ b7 fF bv bw w0 _ aZ dA ?mJ ((Kd.bZ aN.out).2.1) (wV (aJ.own_ne HI0.out aN.out (by decide))) cw.out).mono ?_);(case mJ=>repeat (first|exact (Kd.bZ aN.out).2.2|(with_reducible refine Kd.jJ ?_ _)|(with_reducible refine Kd.jL ?_ _)|(with_reducible refine Kd.jK ?_)));rintro e dl ⟨rfl,hi,hb,hk⟩;refine ⟨_,rfl,?_⟩;obtain ⟨je,mg,aN,HK,HB,HI0⟩:=p_ (aQ.blk hk (g':=a5) (o:=.cells #[ah 0,ah 0,ah 0,ah 0] 25) (aj je) a6.out (by simp)) <| p_ (aQ.blk hk (g':=a7) (o:=.cells #[ah rJ,ah ou,ah tK,ah aa] 25) (aj mg) a8.out (by simp)) <| p_ (Kd.bW (Kd.lY (aJ.apart (show aJ w0 _ g aX ae af from aZ) (aG aN) (by decide)) hk (fun _ h=>h.2)) (fun _ h=>h.1)) <| p_ (aQ.trans q_ hk (.inl rfl)) <| p_ (hb) <| a_ (hi);(try clear hb);(try clear hk);(try clear hi);have cy:=jQ mg.out;obtain ⟨av,aw⟩:=iJ a6 zJ;have cz:=jQ je.out))
  refine bodyPost_ret (results_cell_row rfl _ _ a5 25 #[ah rJ,ah fF,ah tK,ah aa] (0,0) _ rfl bH underlying25 rfl aB) rfl ?_
  exact ⟨b_,aZ,dA,q_⟩
 have bd:=gU b6
 have be:=gV b6
 revert H;refine fJ (fun b8 H=>?_) fun b8 H=>?_
 ·have dM:=gZ b8
  have bh:=g_ b8
  clear b8
  obtain ⟨b9,ax⟩:∃ y_:List Int,y_=(([1,2,6,7]:List Int)):=⟨_,rfl⟩
  rw [← ax] at H
  have b3:=m_ ax
  clear ax
  obtain ⟨⟨bi,cc,cd⟩,d0,H⟩:=bd_ H
  try dsimp -simprocs only at H
  simp only [Option.some.injEq,Prod.mk.injEq] at H
  obtain ⟨rfl,rfl,rfl,rfl,rfl,rfl⟩:=H
  go_enter func43,ntmps43
  go_wp2_with (first|((with_reducible refine dG 2 ?_);refine dU 2 (cs:=#[ah 0,ah 0,ah 0,ah 0]) 25 ?_;intro a5 hg dm hbox hb;have eP:=p_ (aJ.below aZ hb) <| p_ (aQ.trans iI (aQ.of_below hb g none) (.inl rfl)) <| p_ (dI dA hb) <| p_ (hbox) <| p_ ((by rw [hg];exact (gY (w:=w) (g:=g) (row:=none) iI):w.heap.size≤a5)) <| p_ ((Nat.le_trans HW0.out (by rw [hg];exact (gY (w:=w) (g:=g) (row:=none) iI):w.heap.size≤a5):w0.heap.size≤a5)) <| p_ ((by rw [hg];exact Nat.ne_of_lt (aJ.lt (show aJ w0 _ g aX dW dX from aZ)):g≠a5)) <| a_ ((by rw [hg];exact Nat.ne_of_gt (aJ.lt (show aJ w0 _ g aX dW dX from aZ)):a5≠g));clear HI0 HK HB;obtain ⟨HI0,HK,HB,je,Eh,IX,zJ,a6⟩:=eP;clear hb hbox hg)|((with_reducible refine bU 40 ?_);refine bV (some 5) rfl rfl func40 aB rfl #[.pointer (some ⟨g,0,none⟩)] rfl aW ?_;(with_reducible refine (vO.calls g aX dW dX rJ ou tK aa ab ac w0 _ aZ dA A2.out).mono ?_);rintro e kM ⟨rfl,hi,hb,hk⟩;refine ⟨_,rfl,?_⟩;obtain ⟨je,HK,HB,HI0⟩:=p_ (aQ.blk hk (g':=a5) (o:=.cells #[ah 0,ah 0,ah 0,ah 0] 25) (aj je) a6.out (by simp)) <| p_ (aQ.trans su hk (.inl rfl)) <| p_ (hb) <| a_ (hi);(try clear hb);(try clear hk);(try clear hi))|((with_reducible refine dG 3 ?_);refine dU 3 (cs:=#[ah 0,ah 0,ah 0,ah 0]) 25 ?_;intro a7 hg dp hbox hb;have eP:=p_ (aJ.below aZ hb) <| p_ (bG (aj je) hb) <| p_ (aQ.trans su (aQ.of_below hb g none) (.inl rfl)) <| p_ (dI dA hb) <| p_ (hbox) <| p_ ((by rw [hg];exact (gY (w:=w) (g:=g) (row:=none) su):w.heap.size≤a7)) <| p_ ((Nat.le_trans HW0.out (by rw [hg];exact (gY (w:=w) (g:=g) (row:=none) su):w.heap.size≤a7):w0.heap.size≤a7)) <| p_ (kW hg (fO (aj je))) <| p_ (kU hg (fO (aj je))) <| p_ ((by rw [hg];exact Nat.ne_of_lt (aJ.lt (show aJ w0 _ g aX ab ac from aZ)):g≠a7)) <| a_ ((by rw [hg];exact Nat.ne_of_gt (aJ.lt (show aJ w0 _ g aX ab ac from aZ)):a7≠g));clear HI0 je HK HB;obtain ⟨HI0,je,HK,HB,mg,F6,IY,zL,a9,zK,a8⟩:=eP;clear hb hbox hg;obtain ⟨ag,aP,an,ao⟩:=jE a9 zL a8 zK;have d1:=jQ mg.out)|((with_reducible refine bU 87 ?_);refine bV (some 7) rfl rfl func87 aB rfl #[.pointer (some ⟨g,0,none⟩),ah 12] rfl aW ?_;(with_reducible refine (nG.calls g aX ab ac 12 am ae af w0 _ aZ dA A3.out).mono ?_);rintro e dq ⟨rfl,hi,hb,hk⟩;refine ⟨_,rfl,?_⟩;obtain ⟨je,mg,HK,HB,HI0⟩:=p_ (aQ.blk hk (g':=a5) (o:=.cells #[ah 0,ah 0,ah 0,ah 0] 25) bH a6.out (by simp)) <| p_ (aQ.blk hk (g':=a7) (o:=.cells #[ah rJ,ah ou,ah tK,ah aa] 25) II a8.out (by simp)) <| p_ (aQ.trans q_ hk (.inl rfl)) <| p_ (hb) <| a_ (hi);(try clear hb);(try clear hk);(try clear hi))|((with_reducible refine dG 23 ?_);refine Kd.qV (Kd.int .i64) _ 3 ?hg (N:=23) ?hd (xs:=([1,2,6,7]:List Int)) (inner:=[ah 1,ah 2,ah 6,ah 7]) (ok:=fun _=>True) (iT:=fun _=>True) ?hr ?hp (fun _ hk=>hk) trivial (Below.refl _ _) (Nat.le_refl _) (by simp) ?_;(case hd=>rfl);(case hg=>rfl);(case hr=>first|(go_simp;done)|(go_simp;rfl));(case hp=>exact (bM.one (show Kd.M (Kd.int .i64) _ _ _ 1 [ah 1] from rfl) (bM.one (show Kd.M (Kd.int .i64) _ _ _ 2 [ah 2] from rfl) (bM.one (show Kd.M (Kd.int .i64) _ _ _ 6 [ah 6] from rfl) (bM.one (show Kd.M (Kd.int .i64) _ _ _ 7 [ah 7] from rfl) (bM.none _ _))))));intro ajF dr G9 hb jc jd;clear jc jd;(first|rw [← b3.out] at G9|(simp only [Int.reduceToNat] at G9;rw [← b3.out] at G9));obtain ⟨aT,HI0,je,mg,HK,HB⟩:=p_ (Kd.dK G9 (gY (w:=w) (g:=g) (row:=none) q_)) <| p_ (aJ.below aZ hb) <| p_ (bG (aj je) hb) <| p_ (bG (aj mg) hb) <| p_ (aQ.trans q_ (aQ.of_below hb g none) (.inl rfl)) <| a_ (dI dA hb);clear hb G9;obtain ⟨ce,cf,cg⟩:=Kd.dJ aT.out;subst cg)|((with_reducible refine bU 92 ?_);refine bV (some 24) rfl rfl func92 aB rfl #[.pointer (some ⟨g,0,none⟩),.slice ce b9.length cf] rfl aW ?_;(with_reducible refine (oM.calls g aX ae af _ _ b9 bi cc cd w0 _ aZ dA ?mJ ((Kd.bZ aT.out).2.1) (wV (aJ.own_ne HI0.out aT.out (by decide))) d0.out).mono ?_);(case mJ=>repeat (first|exact (Kd.bZ aT.out).2.2|(with_reducible refine Kd.jJ ?_ _)|(with_reducible refine Kd.jL ?_ _)|(with_reducible refine Kd.jK ?_)));rintro e dt ⟨rfl,hi,hb,hk⟩;refine ⟨_,rfl,?_⟩;obtain ⟨je,mg,aT,HK,HB,HI0⟩:=p_ (aQ.blk hk (g':=a5) (o:=.cells #[ah 0,ah 0,ah 0,ah 0] 25) (aj je) a6.out (by simp)) <| p_ (aQ.blk hk (g':=a7) (o:=.cells #[ah rJ,ah ou,ah tK,ah aa] 25) (aj mg) a8.out (by simp)) <| p_ (Kd.bW (Kd.lY (aJ.apart (show aJ w0 _ g aX ae af from aZ) (aG aT) (by decide)) hk (fun _ h=>h.2)) (fun _ h=>h.1)) <| p_ (aQ.trans q_ hk (.inl rfl)) <| p_ (hb) <| a_ (hi);(try clear hb);(try clear hk);(try clear hi);have d2:=jQ mg.out;obtain ⟨av,aw⟩:=iJ a6 zJ;have d3:=jQ je.out))
  refine bodyPost_ret (results_cell_row rfl _ _ a5 25 #[ah rJ,ah ou,ah bi,ah aa] (0,0) _ rfl bH underlying25 rfl aB) rfl ?_
  exact ⟨b_,aZ,dA,q_⟩
 have dM:=gU b8
 have bh:=gV b8
 revert H;refine fJ (fun ba H=>?_) fun ba H=>?_
 rotate_left
 ·have bj:=gU ba
  have bl:=gV ba
  simp only [Option.some.injEq,Prod.mk.injEq] at H
  obtain ⟨rfl,rfl,rfl,rfl,rfl,rfl⟩:=H
  go_enter func43,ntmps43
  go_wp2_with (first|((with_reducible refine dG 2 ?_);refine dU 2 (cs:=#[ah 0,ah 0,ah 0,ah 0]) 25 ?_;intro a5 hg du hbox hb;have eP:=p_ (aJ.below aZ hb) <| p_ (aQ.trans iI (aQ.of_below hb g none) (.inl rfl)) <| p_ (dI dA hb) <| p_ (hbox) <| p_ ((by rw [hg];exact (gY (w:=w) (g:=g) (row:=none) iI):w.heap.size≤a5)) <| p_ ((Nat.le_trans HW0.out (by rw [hg];exact (gY (w:=w) (g:=g) (row:=none) iI):w.heap.size≤a5):w0.heap.size≤a5)) <| p_ ((by rw [hg];exact Nat.ne_of_lt (aJ.lt (show aJ w0 _ g aX dW dX from aZ)):g≠a5)) <| a_ ((by rw [hg];exact Nat.ne_of_gt (aJ.lt (show aJ w0 _ g aX dW dX from aZ)):a5≠g));clear HI0 HK HB;obtain ⟨HI0,HK,HB,je,Eh,IX,zJ,a6⟩:=eP;clear hb hbox hg)|((with_reducible refine bU 40 ?_);refine bV (some 5) rfl rfl func40 aB rfl #[.pointer (some ⟨g,0,none⟩)] rfl aW ?_;(with_reducible refine (vO.calls g aX dW dX rJ ou tK aa ab ac w0 _ aZ dA A2.out).mono ?_);rintro e dv ⟨rfl,hi,hb,hk⟩;refine ⟨_,rfl,?_⟩;obtain ⟨je,HK,HB,HI0⟩:=p_ (aQ.blk hk (g':=a5) (o:=.cells #[ah 0,ah 0,ah 0,ah 0] 25) (aj je) a6.out (by simp)) <| p_ (aQ.trans su hk (.inl rfl)) <| p_ (hb) <| a_ (hi);(try clear hb);(try clear hk);(try clear hi))|((with_reducible refine dG 3 ?_);refine dU 3 (cs:=#[ah 0,ah 0,ah 0,ah 0]) 25 ?_;intro a7 hg lZ hbox hb;have eP:=p_ (aJ.below aZ hb) <| p_ (bG (aj je) hb) <| p_ (aQ.trans su (aQ.of_below hb g none) (.inl rfl)) <| p_ (dI dA hb) <| p_ (hbox) <| p_ ((by rw [hg];exact (gY (w:=w) (g:=g) (row:=none) su):w.heap.size≤a7)) <| p_ ((Nat.le_trans HW0.out (by rw [hg];exact (gY (w:=w) (g:=g) (row:=none) su):w.heap.size≤a7):w0.heap.size≤a7)) <| p_ (kW hg (fO (aj je))) <| p_ (kU hg (fO (aj je))) <| p_ ((by rw [hg];exact Nat.ne_of_lt (aJ.lt (show aJ w0 _ g aX ab ac from aZ)):g≠a7)) <| a_ ((by rw [hg];exact Nat.ne_of_gt (aJ.lt (show aJ w0 _ g aX ab ac from aZ)):a7≠g));clear HI0 je HK HB;obtain ⟨HI0,je,HK,HB,mg,F6,IY,zL,a9,zK,a8⟩:=eP;clear hb hbox hg;obtain ⟨ag,aP,co,cp⟩:=jE a9 zL a8 zK;have d4:=jQ mg.out)|((with_reducible refine bU 87 ?_);refine bV (some 7) rfl rfl func87 aB rfl #[.pointer (some ⟨g,0,none⟩),ah 12] rfl aW ?_;(with_reducible refine (nG.calls g aX ab ac 12 am ae af w0 _ aZ dA A3.out).mono ?_);rintro e dx ⟨rfl,hi,hb,hk⟩;refine ⟨_,rfl,?_⟩;obtain ⟨je,mg,HK,HB,HI0⟩:=p_ (aQ.blk hk (g':=a5) (o:=.cells #[ah 0,ah 0,ah 0,ah 0] 25) bH a6.out (by simp)) <| p_ (aQ.blk hk (g':=a7) (o:=.cells #[ah rJ,ah ou,ah tK,ah aa] 25) II a8.out (by simp)) <| p_ (aQ.trans q_ hk (.inl rfl)) <| p_ (hb) <| a_ (hi);(try clear hb);(try clear hk);(try clear hi);have d5:=jQ mg.out;obtain ⟨av,aw⟩:=iJ a6 zJ;have d6:=jQ je.out))
  refine bodyPost_ret (results_cell_row rfl _ _ a5 25 #[ah rJ,ah ou,ah tK,ah aa] (0,0) _ rfl bH underlying25 rfl aB) rfl ?_
  exact ⟨b_,aZ,dA,q_⟩
 have bj:=gZ ba
 have bl:=g_ ba
 clear ba
 obtain ⟨bb,az⟩:∃ y_:List Int,y_=(([0,8,9,wrap64 (ou - 4),wrap64 (ou - 3)]:List Int)):=⟨_,rfl⟩
 rw [← az] at H
 have b4:=m_ az
 clear az
 obtain ⟨⟨bm,ch,ci⟩,d7,H⟩:=bd_ H
 try dsimp -simprocs only at H
 simp only [Option.some.injEq,Prod.mk.injEq] at H
 obtain ⟨rfl,rfl,rfl,rfl,rfl,rfl⟩:=H
 go_enter func43,ntmps43
 go_wp2_with (first|((with_reducible refine dG 2 ?_);refine dU 2 (cs:=#[ah 0,ah 0,ah 0,ah 0]) 25 ?_;intro a5 hg dy hbox hb;have eP:=p_ (aJ.below aZ hb) <| p_ (aQ.trans iI (aQ.of_below hb g none) (.inl rfl)) <| p_ (dI dA hb) <| p_ (hbox) <| p_ ((by rw [hg];exact (gY (w:=w) (g:=g) (row:=none) iI):w.heap.size≤a5)) <| p_ ((Nat.le_trans HW0.out (by rw [hg];exact (gY (w:=w) (g:=g) (row:=none) iI):w.heap.size≤a5):w0.heap.size≤a5)) <| p_ ((by rw [hg];exact Nat.ne_of_lt (aJ.lt (show aJ w0 _ g aX dW dX from aZ)):g≠a5)) <| a_ ((by rw [hg];exact Nat.ne_of_gt (aJ.lt (show aJ w0 _ g aX dW dX from aZ)):a5≠g));clear HI0 HK HB;obtain ⟨HI0,HK,HB,je,Eh,IX,zJ,a6⟩:=eP;clear hb hbox hg)|((with_reducible refine bU 40 ?_);refine bV (some 5) rfl rfl func40 aB rfl #[.pointer (some ⟨g,0,none⟩)] rfl aW ?_;(with_reducible refine (vO.calls g aX dW dX rJ ou tK aa ab ac w0 _ aZ dA A2.out).mono ?_);rintro e dz ⟨rfl,hi,hb,hk⟩;refine ⟨_,rfl,?_⟩;obtain ⟨je,HK,HB,HI0⟩:=p_ (aQ.blk hk (g':=a5) (o:=.cells #[ah 0,ah 0,ah 0,ah 0] 25) (aj je) a6.out (by simp)) <| p_ (aQ.trans su hk (.inl rfl)) <| p_ (hb) <| a_ (hi);(try clear hb);(try clear hk);(try clear hi))|((with_reducible refine dG 3 ?_);refine dU 3 (cs:=#[ah 0,ah 0,ah 0,ah 0]) 25 ?_;intro a7 hg e0 hbox hb;have eP:=p_ (aJ.below aZ hb) <| p_ (bG (aj je) hb) <| p_ (aQ.trans su (aQ.of_below hb g none) (.inl rfl)) <| p_ (dI dA hb) <| p_ (hbox) <| p_ ((by rw [hg];exact (gY (w:=w) (g:=g) (row:=none) su):w.heap.size≤a7)) <| p_ ((Nat.le_trans HW0.out (by rw [hg];exact (gY (w:=w) (g:=g) (row:=none) su):w.heap.size≤a7):w0.heap.size≤a7)) <| p_ (kW hg (fO (aj je))) <| p_ (kU hg (fO (aj je))) <| p_ ((by rw [hg];exact Nat.ne_of_lt (aJ.lt (show aJ w0 _ g aX ab ac from aZ)):g≠a7)) <| a_ ((by rw [hg];exact Nat.ne_of_gt (aJ.lt (show aJ w0 _ g aX ab ac from aZ)):a7≠g));clear HI0 je HK HB;obtain ⟨HI0,je,HK,HB,mg,F6,IY,zL,a9,zK,a8⟩:=eP;clear hb hbox hg;obtain ⟨ag,aP,an,ao⟩:=jE a9 zL a8 zK;have d8:=jQ mg.out)|((with_reducible refine bU 87 ?_);refine bV (some 7) rfl rfl func87 aB rfl #[.pointer (some ⟨g,0,none⟩),ah 12] rfl aW ?_;(with_reducible refine (nG.calls g aX ab ac 12 am ae af w0 _ aZ dA A3.out).mono ?_);rintro e e3 ⟨rfl,hi,hb,hk⟩;refine ⟨_,rfl,?_⟩;obtain ⟨je,mg,HK,HB,HI0⟩:=p_ (aQ.blk hk (g':=a5) (o:=.cells #[ah 0,ah 0,ah 0,ah 0] 25) bH a6.out (by simp)) <| p_ (aQ.blk hk (g':=a7) (o:=.cells #[ah rJ,ah ou,ah tK,ah aa] 25) II a8.out (by simp)) <| p_ (aQ.trans q_ hk (.inl rfl)) <| p_ (hb) <| a_ (hi);(try clear hb);(try clear hk);(try clear hi);have d9:=jQ mg.out)|((with_reducible refine dG 35 ?_);refine Kd.qV (Kd.int .i64) _ 3 ?hg (N:=35) ?hd (xs:=([0,8,9,wrap64 (ou - 4),wrap64 (ou - 3)]:List Int)) (inner:=[ah 0,ah 8,ah 9,ah (wrap64 (ou - 4)),ah (wrap64 (ou - 3))]) (ok:=fun _=>True) (iT:=fun _=>True) ?hr ?hp (fun _ hk=>hk) trivial (Below.refl _ _) (Nat.le_refl _) (by simp) ?_;(case hd=>rfl);(case hg=>rfl);(case hr=>first|(go_simp;done)|(go_simp;rfl));(case hp=>exact (bM.one (show Kd.M (Kd.int .i64) _ _ _ 0 [ah 0] from rfl) (bM.one (show Kd.M (Kd.int .i64) _ _ _ 8 [ah 8] from rfl) (bM.one (show Kd.M (Kd.int .i64) _ _ _ 9 [ah 9] from rfl) (bM.one (show Kd.M (Kd.int .i64) _ _ _ (wrap64 (ou - 4)) [ah (wrap64 (ou - 4))] from rfl) (bM.one (show Kd.M (Kd.int .i64) _ _ _ (wrap64 (ou - 3)) [ah (wrap64 (ou - 3))] from rfl) (bM.none _ _)))))));intro ajG e4 oK hb jc jd;clear jc jd;(first|rw [← b4.out] at oK|(simp only [Int.reduceToNat] at oK;rw [← b4.out] at oK));obtain ⟨al,HI0,je,mg,HK,HB⟩:=p_ (Kd.dK oK (gY (w:=w) (g:=g) (row:=none) q_)) <| p_ (aJ.below aZ hb) <| p_ (bG (aj je) hb) <| p_ (bG (aj mg) hb) <| p_ (aQ.trans q_ (aQ.of_below hb g none) (.inl rfl)) <| a_ (dI dA hb);clear hb oK;obtain ⟨cj,ck,cl⟩:=Kd.dJ al.out;subst cl)|((with_reducible refine bU 92 ?_);refine bV (some 36) rfl rfl func92 aB rfl #[.pointer (some ⟨g,0,none⟩),.slice cj bb.length ck] rfl aW ?_;(with_reducible refine (oM.calls g aX ae af _ _ bb bm ch ci w0 _ aZ dA ?mJ ((Kd.bZ al.out).2.1) (wV (aJ.own_ne HI0.out al.out (by decide))) d7.out).mono ?_);(case mJ=>repeat (first|exact (Kd.bZ al.out).2.2|(with_reducible refine Kd.jJ ?_ _)|(with_reducible refine Kd.jL ?_ _)|(with_reducible refine Kd.jK ?_)));rintro e e5 ⟨rfl,hi,hb,hk⟩;refine ⟨_,rfl,?_⟩;obtain ⟨je,mg,al,HK,HB,HI0⟩:=p_ (aQ.blk hk (g':=a5) (o:=.cells #[ah 0,ah 0,ah 0,ah 0] 25) (aj je) a6.out (by simp)) <| p_ (aQ.blk hk (g':=a7) (o:=.cells #[ah rJ,ah ou,ah tK,ah aa] 25) (aj mg) a8.out (by simp)) <| p_ (Kd.bW (Kd.lY (aJ.apart (show aJ w0 _ g aX ae af from aZ) (aG al) (by decide)) hk (fun _ h=>h.2)) (fun _ h=>h.1)) <| p_ (aQ.trans q_ hk (.inl rfl)) <| p_ (hb) <| a_ (hi);(try clear hb);(try clear hk);(try clear hi);have da:=jQ mg.out;obtain ⟨cq,cr⟩:=iJ a6 zJ;have db:=jQ je.out))
 refine bodyPost_ret (results_cell_row rfl _ _ a5 25 #[ah rJ,ah ou,ah tK,ah bm] (0,0) _ rfl bH underlying25 rfl aB) rfl ?_
 exact ⟨b_,aZ,dA,q_⟩

end Go.Proofs.YthejdhjpbpamoaaGreatDoor.jM
