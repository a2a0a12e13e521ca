/- Contracts of Go functions: each call returns what the Lean function beside it computes. Conditions: as each theorem states them. -/
import Derived.Test.YthejdhjpbpamoaaGreatDoorPkFnMoves
import Derived.Test.YthejdhjpbpamoaaGreatDoorPFnMovesx1
namespace Go.Proofs.YthejdhjpbpamoaaGreatDoor.jM
open Go.RowKit Go.Proofs.YthejdhjpbpamoaaGreatDoorW.iK Go.Proofs.YthejdhjpbpamoaaGreatDoorW.lX Go.Proofs.YthejdhjpbpamoaaGreatDoorW.oV Go.Proofs.Tryz
attribute [local go_sem] qI qM qL qP qK qO qJ qN   -- for this text's walks alone
set_option linter.unusedVariables false
set_option maxHeartbeats 8000000
set_option maxRecDepth 100000
set_option linter.unusedSimpArgs false

mutual
def ji.l0:Nat→Bool→Int→List (aC)→ByteArray→Bool→ByteArray→List (aC)→Option ((List (aC)))
 | 0,_,_,_,_,_,_,_=>none
 | k+1,x6,x7,a6,a7,a8,a9,a5=>if x7 < (a6.length:Int) then (if x6=true then (ji.j1 k x6 x7 false a6 a7 a8 a9 a5) else (if 0≤x7 then (ji.j1 k x6 x7 (Op.bytesLess a7.toList (((au a6 x7).f0).toList)) a6 a7 a8 a9 a5) else (none))) else (if x6=true then (some a5) else (if a5.length < 3518437208883 then (some (a5++[(⟨a7,a8,a9⟩:aC)])) else (none)))
def ji.j1:Nat→Bool→Int→Bool→List (aC)→ByteArray→Bool→ByteArray→List (aC)→Option ((List (aC)))
 | 0,_,_,_,_,_,_,_,_=>none
 | k+1,x6,x7,ab,a5,a6,a7,a8,a9=>if ab=true then (if a9.length < 3518437208883 then ((some (a9++[(⟨a6,a7,a8⟩:aC)]:List (aC))).bind fun aa=>(if 0≤x7 then (if x7 < (a5.length:Int) then (if ((au a5 x7).f0).toList=a6.toList then (ji.l0 k true (wrap64 (x7+1)) a5 a6 a7 a8 aa) else (if aa.length < 3518437208883 then (ji.l0 k true (wrap64 (x7+1)) a5 a6 a7 a8 (aa++[(⟨(au a5 x7).f0,(au a5 x7).f1,(au a5 x7).f2⟩:aC)])) else (none))) else (none)) else (none))) else (none)) else (if 0≤x7 then (if x7 < (a5.length:Int) then (if ((au a5 x7).f0).toList=a6.toList then (ji.l0 k x6 (wrap64 (x7+1)) a5 a6 a7 a8 a9) else (if a9.length < 3518437208883 then (ji.l0 k x6 (wrap64 (x7+1)) a5 a6 a7 a8 (a9++[(⟨(au a5 x7).f0,(au a5 x7).f1,(au a5 x7).f2⟩:aC)])) else (none))) else (none)) else (none))
end
def ji.f (k:Nat) (a5:List (aC)) (a6:ByteArray) (a7:Bool) (a8:ByteArray):Option ((List (aC))):=ji.l0 k false 0 a5 a6 a7 a8 ([]:List (aC))
def ji.T6:Bool × List (List Nat × List Nat):=(true,[([],[]),([0],[0]),([1],[1]),([2],[2]),([3,2],[2,3]),([2],[2]),([4,5,2],[2,4,5]),([6,2],[2,6]),([7,2],[2,7]),([2],[2]),([9,2],[2,9]),([8,10,2],[2,8,10]),([2,11],[2,11])])
def ji.B6:List Nat:=[0,1,3,7,15,7,63,127,255,7,519,2047,4095]
theorem ji.tab6:kZ .any (opsOf Tryz.f90 6)=ji.T6:=by kernel_rfl
theorem ji.Bc:sF ji.T6.2 ji.B6=true:=by kernel_rfl
def ji.T9:Bool × List (List Nat × List Nat):=(true,[([],[]),([0],[0]),([],[]),([1,2],[1,2]),([3],[3]),([4],[4]),([],[]),([6],[6]),([5,7],[5,7])])
def ji.B9:List Nat:=[0,1,0,7,15,31,0,64,255]
theorem ji.xw:kZ .any (opsOf Tryz.f90 9)=ji.T9:=by kernel_rfl
theorem ji.wM:sF ji.T9.2 ji.B9=true:=by kernel_rfl
def ji.T10:Bool × List (List Nat × List Nat):=(true,[([],[]),([0],[0]),([],[]),([2],[2]),([],[]),([3,4],[3,4]),([5],[5]),([6],[6]),([1,7],[1,7]),([0,1,2,3,4,5,6,7,8],[]),([9,8,8,0,1,2,3,4,5,6,7,8],[8,9])])
def ji.B10:List Nat:=[0,1,0,4,0,28,60,124,255,511,1023]
theorem ji.IE:kZ .any (opsOf Tryz.f90 10)=ji.T10:=by kernel_rfl
theorem ji.Gm:sF ji.T10.2 ji.B10=true:=by kernel_rfl
theorem ji.calls (k:Nat) (cf:Option Addr) (b2:Nat) (aH:List (aC)) (fH:ByteArray) (fG:Bool) (fE:ByteArray) (r:List (aC)) (w:World) (cy:Kd.C bF w cf aH.length aH) (cz:aH.length≤b2) (h:ji.f k aH fH fG fE=some r) :
  Calls Tryz.prog 90 #[.agg #[.slice cf aH.length b2],.agg #[.string fH,.bool fG,.string fE]] w fun e w'=>∃ gQ:Value,e=.returned (.agg #[gQ])∧Kd.R bF 43 w' w.heap.size (fun _=>True) gQ r∧Below w.heap.size w w':=by
 have oq:=underlying28
 have rF:=underlying43
 have lF:=m_ cy
 have er:=m_ cz
 clear cy cz
 have HB:=m_ (Below.refl w.heap.size w)
 unfold ji.f at h
 have H:=h
 clear h
 have H':=m_ H
 clear H
 go_enter func90,ntmps90
 go_wp2_with (first|((with_reducible refine dG 2 ?_);refine dU 2 (cs:=#[.slice cf aH.length b2]) 28 ?_;intro b0 hg w3 hbox hb;obtain ⟨HB,a7,es,et⟩:=kE ay hb hbox hg;clear hb hbox hg)|((with_reducible refine dG 3 ?_);refine dU 3 (cs:=#[.string fH,.bool fG,.string fE]) 43 ?_;intro t_ hg w4 hbox hb;obtain ⟨a7,HB,kJ,rV,ev,bh,bi⟩:=qj (aj a7) ay hb hbox hg;clear hb hbox hg)|((with_reducible refine dG 4 ?_);refine dU 4 (cs:=#[.slice none 0 0]) 28 ?_;intro b3 hg w5 hbox hb;obtain ⟨a7,kJ,HB,a9,ew,ex,bj,bl,bm,fK⟩:=wu (aj a7) (aj kJ) ay hb hbox hg;clear hb hbox hg)|((with_reducible refine dG 5 ?_);refine dU 5 (cs:=#[.slice none 0 0]) 28 ?_;intro ac hg w6 hbox hb;obtain ⟨a7,kJ,a9,HB,a6,ey,ez,ae,af,ag,aP,ai,aN⟩:=yF (aj a7) (aj kJ) (aj a9) ay hb hbox hg;clear hb hbox hg;obtain ⟨aT,al,am,an,ao,ap⟩:=kL af ae aP ag aN ai;have Qg:=cu a6.out))
 go_loopg [6,7] k (fun kq v6 v7 w'=>∃ (cd:Bool) (a8:Int) (aa:List (aC)) (wG:Value),v6=.bool cd∧v7=ah a8∧aA (ji.l0 kq cd a8 aH fH fG fE aa=some r)∧aA (kq≤k)∧aA (Kd.R bF 43 w' w.heap.size (fun aF=>aF≠t_) wG aa)∧aA (w'.heap[b0]?=some (.cells #[(.slice cf aH.length b2)] 28))∧aA (w'.heap[t_]?=some (.cells #[.string fH,.bool fG,.string fE] 43))∧aA (w'.heap[b3]?=some (.cells #[(.slice none 0 0)] 28))∧aA (w'.heap[ac]?=some (.cells #[wG] 28))∧aA (Below w.heap.size w w'))
 case atStart=>exact ⟨(false),(0),(([]:List (aC))),(.slice none 0 0),bg,bg,H',⟨Nat.le_refl _⟩,⟨tN⟩,⟨bH⟩,⟨bH⟩,⟨bH⟩,⟨bH⟩,⟨ay⟩⟩
 case round =>
 clear H'
 try clear Qg
 obtain ⟨cd,a8,aa,wG,rfl,rfl,HA,iq,a5,a7,kJ,a9,a6,HB⟩:=hrel
 cases gk with
 | zero=>exact absurd HA.out (by simp [ji.l0])
 | succ k1 =>
 obtain ⟨H⟩:=HA
 simp only [ji.l0] at H
 have dj:=m_ H
 clear H
 obtain ⟨b4,b5,bv,bw⟩:=jE bh bi bj bl
 have BR:=cu a7.out
 go_upto_if 13 with (fail)
 (try clear b4 bv al b5 an bw ap aT am ao)
 (try clear BR)
 obtain ⟨H⟩:=dj
 revert H;refine gI (fun ca H=>?_) fun ca H=>?_
 rotate_left
 ·try simp only [bI,bY,ca]
  by_cases e6:cd=true
  ·subst e6
   rw [if_pos rfl] at H
   obtain rfl:=cZ H
   obtain ⟨aT,al,am,an,ao,ap⟩:=kL af ae aP ag aN ai
   have akP:=cu a6.out
   obtain ⟨e8,e9,ea⟩:=Kd.dJ a5.out
   subst ea
   obtain ⟨bw,bv,bx,bz⟩:=jE bl bj fK bm
   have akQ:=cu a9.out
   go_wp2
   refine bodyPost_ret (results_cell_row rfl _ _ b3 28 #[.slice e8 aa.length e9] (0,0) _ rfl bH underlying28 rfl aB) rfl ?_
   exact ⟨_,b_,(by (with_reducible repeat (first|apply Kd.dR|apply Kd.dS|apply Kd.bK));exact Kd.bW (aU (Kd.dL a5.out a9.out (by decide))) (fun _ hk=>trivial)),ay⟩
  replace e6:=Bool.eq_false_iff.mpr e6
  subst e6
  rw [if_neg iO] at H
  obtain ⟨f4,H⟩:=lG H
  have dk:=m_ f4
  clear f4
  obtain ⟨dl,cr⟩:∃ y_:List (aC),y_=(aa++[(⟨fH,fG,fE⟩:aC)]):=⟨_,rfl⟩
  rw [← cr] at H
  have dm:=m_ cr
  clear cr
  obtain rfl:=cZ H
  obtain ⟨aT,al,am,an,ao,ap⟩:=kL af ae aP ag aN ai
  have akU:=cu a6.out
  obtain ⟨b5,b4,bz,bx⟩:=jE bi bh bm fK
  have fj:=nP kJ.out
  go_wp2_with (first|((with_reducible refine wW (b:=.append) (xs:=#[.tmp 57,.tmp 59]) rfl ?_);at_builtin;refine Kd.CS bF (w0:=w) w.heap.size rfl (.tmp 57) (.tmp 59) 26 43 (.agg #[(.string ⟨#[]⟩),(.bool false),(.string ⟨#[]⟩)]) 40 rfl underlying26 o8 rfl (by decide) (by omega) wG aa (⟨fH,fG,fE⟩:aC) [.string fH,.bool fG,.string fE] (fun aF=>aF≠t_) (fun _=>False) rfl rfl ?rD (fun _ hk=>hk.elim) ?kS ?ku ?lu ?kC ?aL ?_;(case rD=>exact qX _ _ _ (⟨fH,fG,fE⟩:aC));(case lu=>exact ay);(case kS=>exact KC);(case ku=>exact (aG a5));(case kC=>exact (dO ay));(case aL=>have:=dk.out;omega);intro aiI fq ho hb hg hat;rw [← dm.out] at ho;obtain ⟨a7,kJ,a9,a6,HB,d0⟩:=p_ (iE (g:=b0) (o:=.cells #[.slice cf aH.length b2] 28) (aj a7) hg (Kd.iw a5.out a7.out (by decide))) <| p_ (iE (g:=t_) (o:=.cells #[.string fH,.bool fG,.string fE] 43) (aj kJ) hg (Kd.qB a5.out (fun _ hk=>hk))) <| p_ (iE (g:=b3) (o:=.cells #[.slice none 0 0] 28) (aj a9) hg (Kd.iw a5.out a9.out (by decide))) <| p_ (iE (g:=ac) (o:=.cells #[wG] 28) (aj a6) hg (Kd.iw a5.out a6.out (by decide))) <| p_ (hb) <| a_ (ho);clear ho hb hg hat;obtain ⟨eb,ec,ed⟩:=Kd.dJ d0.out;subst ed;have Lc:=cu a6.out;obtain ⟨bw,bv⟩:=iJ bl bj;have ady:=cu a9.out))
  refine bodyPost_ret (results_cell_row rfl _ _ b3 28 #[.slice eb dl.length ec] (0,0) _ rfl bH underlying28 rfl aB) rfl ?_
  exact ⟨_,b_,(by (with_reducible repeat (first|apply Kd.dR|apply Kd.dS|apply Kd.bK));exact Kd.bW (aU (aU (Kd.dL (Kd.dL d0.out a6.out (by decide)) a9.out (by decide)) (fun _ hk=>hk.1.2))) (fun _ hk=>trivial)),ay⟩
 try simp only [bI,bY,ca]
 have d4:=m_ H
 clear H
 go_upto_region 6 with (fail)
 go_cut [28] (fun v28 wc=>∃ (kq:Nat) (ce:Bool),v28=.bool ce∧aA (ji.j1 kq cd a8 ce aH fH fG fE aa=some r)∧aA (kq≤k1)∧aA (Kd.R bF 43 wc w.heap.size (fun aF=>aF≠t_) wG aa)∧aA (wc.heap[b0]?=some (.cells #[(.slice cf aH.length b2)] 28))∧aA (wc.heap[t_]?=some (.cells #[.string fH,.bool fG,.string fE] 43))∧aA (wc.heap[b3]?=some (.cells #[(.slice none 0 0)] 28))∧aA (wc.heap[ac]?=some (.cells #[wG] 28))∧aA (Below w.heap.size w wc))
 case first =>
  obtain ⟨H⟩:=d4
  by_cases kM:cd=true
  ·subst kM
   rw [if_pos rfl] at H
   have H':=m_ H
   clear H
   try go_wp2
   obtain ⟨a5,a7,kJ,a9,a6,HB⟩:=p_ (Kd.bK a5.out) <| uG a7 kJ a9 a6 HB
   refine iH (n:=13) (S:=fun w'=>True) (ds:=[]) Jq aB rfl rfl trivial (fun hH=>?_);refine jC ji.tab6 ji.Bc (fun aS gJ=>?_)
   generalize wr.drew=fs at a5 a7 kJ a9 a6 HB hH ⊢
   refine aI 0 ?_
   refine aI 1 ?_
   refine aI 2 ?_
   refine bf 3 ?_
   refine uo 4 20 #[ak,ak,ak,ak,ak,F_,F_,F_,F_,F_,F_,F_,F_] aS ?_
   refine uo 5 21 #[ak,ak,ak,ak,ak,ak,F_,F_,F_,F_,F_,F_,F_] aS ?_
   refine uo 6 22 #[ak,ak,ak,ak,ak,ak,ak,F_,F_,F_,F_,F_,F_] aS ?_
   refine bf 7 ?_
   refine bf 8 ?_
   refine bf 9 ?_
   refine bf 10 ?_
   refine bf 11 ?_
   refine aI 12 ?_
   refine iF (jB aS.out aB) ?_
   try go_wp2
   go_meet
   case rel=>exact ⟨_,(false),bg,H',⟨KE⟩,⟨(aG a5)⟩,⟨(aj a7)⟩,⟨(aj kJ)⟩,⟨(aj a9)⟩,⟨(aj a6)⟩,⟨ay⟩⟩
  replace kM:=Bool.eq_false_iff.mpr kM
  subst kM
  rw [if_neg iO] at H
  obtain ⟨ct,H⟩:=fU H
  try simp only [bI,bY,ct]
  have H':=m_ H
  clear H
  try go_wp2
  obtain ⟨a5,a7,kJ,a9,a6,HB⟩:=p_ (Kd.bK a5.out) <| uG a7 kJ a9 a6 HB
  have cw:0≤(a8:Int):=bC bD
  have cx:a8 < (aH.length:Int):=bC bD
  obtain ⟨cc,ef,b6,b7,b8⟩:=jP lF.out a8 cw cx
  have ci:=b8
  have cj:=b7
  have ck:=b6
  cases ef
  replace b6:=gu HB.out b6
  replace b7:=gu HB.out b7
  replace b8:=gu HB.out b8
  replace cw:=eq_true cw
  replace cx:=eq_true cx
  refine iH (n:=13) (S:=fun w'=>lD w' b0 (.slice (some cc) aH.length b2) <| zG w' t_ (.string fH) (.bool fG) (.string fE) <| uw w' (cc.add ((a8).toNat * 3)) (.string ((au aH a8).f0)) (.bool ((au aH a8).f1)) (.string ((au aH a8).f2))) (ds:=[]) Jq aB rfl rfl ⟨(aO a7.out 0).trans rfl,vC kJ.out ⟨((HB.out.cell (World.block_lt_of_cell? w _ ck)).trans ck),((HB.out.cell (World.block_lt_of_cell? w _ cj)).trans cj),((HB.out.cell (World.block_lt_of_cell? w _ ci)).trans ci)⟩⟩ (fun hH=>?_);refine jC ji.tab6 ji.Bc (fun aS gJ=>?_)
  generalize wr.drew=ft at a5 a7 kJ a9 a6 HB b6 b7 b8 hH ⊢
  refine aI 0 ?_
  refine aI 1 ?_
  refine aI 2 ?_
  refine aI 3 ?_
  refine eY 5 21 #[ak,ak,ak,ak,F_,ak,F_,F_,F_,F_,F_,F_,F_] aS ?_
  refine eY 9 25 #[ak,ak,ak,ak,F_,ak,F_,F_,F_,ak,F_,F_,F_] aS ?_
  refine pJ 4 20 #[ak,ak,ak,ak,ak,ak,F_,F_,F_,ak,F_,F_,F_] aS gJ hH ?_
  refine eY 6 22 #[ak,ak,ak,ak,ak,ak,ak,F_,F_,ak,F_,F_,F_] aS ?_
  refine eY 7 23 #[ak,ak,ak,ak,ak,ak,ak,ak,F_,ak,F_,F_,F_] aS ?_
  refine fV 8 hH ?_
  refine fV 10 hH ?_
  refine aI 11 ?_
  refine aI 12 ?_
  refine iF (jB aS.out aB) ?_
  try go_wp2
  go_meet
  case rel=>exact ⟨_,((Op.bytesLess fH.toList (((au aH a8).f0).toList))),(by first|rfl|(simp;done)|exact congrArg Value.bool (uz _ _)|exact congrArg Value.bool (wo _ _)|(simp only [Value.bool.injEq];first|exact uz _ _|exact wo ..)|(simp [*];done)),H',⟨KE⟩,⟨(aG a5)⟩,⟨(aj a7)⟩,⟨(aj kJ)⟩,⟨(aj a9)⟩,⟨(aj a6)⟩,⟨ay⟩⟩
 case rest =>
 clear d4
 try clear d3;try clear ca
 obtain ⟨kq,ce,rfl,HA,AV,a5,a7,kJ,a9,a6,HB⟩:=hcut
 cases kq with
 | zero=>exact absurd HA.out (by simp [ji.j1])
 | succ JY =>
 obtain ⟨H⟩:=HA
 simp only [ji.j1] at H
 by_cases e7:ce=true
 rotate_left
 ·replace e7:=Bool.eq_false_iff.mpr e7
  subst e7
  rw [if_neg iO] at H
  obtain ⟨f7,H⟩:=fU H
  obtain ⟨fb,H⟩:=fU H
  have dp:=m_ H
  clear H
  try go_wp2
  obtain ⟨a5,a7,kJ,a9,a6,HB⟩:=p_ (Kd.bK a5.out) <| uG a7 kJ a9 a6 HB
  have d5:0≤(a8:Int):=bC bD
  have d6:a8 < (aH.length:Int):=bC bD
  obtain ⟨aq,eh,b9,ba,bb⟩:=jP lF.out a8 d5 d6
  have cl:=bb
  have cm:=ba
  have cn:=b9
  cases eh
  replace b9:=gu HB.out b9
  replace ba:=gu HB.out ba
  replace bb:=gu HB.out bb
  replace d5:=eq_true d5
  replace d6:=eq_true d6
  refine iH (n:=9) (S:=fun w'=>lD w' b0 (.slice (some aq) aH.length b2) <| zG w' t_ (.string fH) (.bool fG) (.string fE) <| uw w' (aq.add ((a8).toNat * 3)) (.string ((au aH a8).f0)) (.bool ((au aH a8).f1)) (.string ((au aH a8).f2))) (ds:=[]) Gq aB rfl rfl ⟨(aO a7.out 0).trans rfl,vC kJ.out ⟨((HB.out.cell (World.block_lt_of_cell? w _ cn)).trans cn),((HB.out.cell (World.block_lt_of_cell? w _ cm)).trans cm),((HB.out.cell (World.block_lt_of_cell? w _ cl)).trans cl)⟩⟩ (fun hH=>?_);refine jC ji.xw ji.wM (fun aS gJ=>?_)
  generalize wc.drew=fk at a5 a7 kJ a9 a6 HB b9 ba bb hH ⊢
  refine aI 0 ?_
  refine aI 2 ?_
  refine aI 6 ?_
  refine fV 1 hH ?_
  refine aI 3 ?_
  refine aI 4 ?_
  refine fV 5 hH ?_
  refine fV 7 hH ?_
  refine aI 8 ?_
  refine iF (jB aS.out aB) ?_
  go_upto_if 43 with (fail)
  (try clear b9 ba bb)
  obtain ⟨H⟩:=dp
  revert H;refine fJ (fun d7 H=>?_) fun d7 H=>?_
  ·have cg:=gZ d7
   have dq:=g_ d7
   clear d7
   try simp only [bI,bY,cg]
   have H':=m_ H
   clear H
   go_wp2
   go_roundg JY
   case measure=>have:=iq.out;have:=AV.out;omega
   case rel=>exact ⟨(cd),(wrap64 (a8+1)),(aa),(wG),bg,bg,H',⟨(by have:=iq.out;have:=AV.out;omega)⟩,⟨(aG a5)⟩,⟨(aj a7)⟩,⟨(aj kJ)⟩,⟨(aj a9)⟩,⟨(aj a6)⟩,⟨ay⟩⟩
  have cg:=gU d7
  have dq:=gV d7
  try simp only [bI,bY,cg]
  obtain ⟨fc,H⟩:=lG H
  have dr:=m_ fc
  clear fc
  obtain ⟨d8,jg⟩:∃ y_:List (aC),y_=(aa++[(⟨(au aH a8).f0,(au aH a8).f1,(au aH a8).f2⟩:aC)]):=⟨_,rfl⟩
  rw [← jg] at H
  have dt:=m_ jg
  clear jg
  have H':=m_ H
  clear H
  try go_wp2
  obtain ⟨a5,a7,kJ,a9,a6,HB⟩:=p_ (Kd.bK a5.out) <| uG a7 kJ a9 a6 HB
  have d9:0≤(a8:Int):=bC bD
  have da:a8 < (aH.length:Int):=bC bD
  obtain ⟨du,ei,bo,bp,bq⟩:=jP lF.out a8 d9 da
  have ar:=bq
  have bP:=bp
  have av:=bo
  obtain rfl:aq=du:=(by injection ei)
  replace bo:=gu HB.out bo
  replace bp:=gu HB.out bp
  replace bq:=gu HB.out bq
  replace d9:=eq_true d9
  replace da:=eq_true da
  refine iH (n:=11) (S:=fun w'=>lD w' ac (wG) <| lD w' b0 (.slice (some aq) aH.length b2) <| uw w' (aq.add ((a8).toNat * 3)) (.string ((au aH a8).f0)) (.bool ((au aH a8).f1)) (.string ((au aH a8).f2))) (ds:=[10]) EF aB rfl rfl ⟨(aO a6.out 0).trans rfl,(aO a7.out 0).trans rfl,((HB.out.cell (World.block_lt_of_cell? w _ av)).trans av),((HB.out.cell (World.block_lt_of_cell? w _ bP)).trans bP),((HB.out.cell (World.block_lt_of_cell? w _ ar)).trans ar)⟩ (fun hH=>?_);refine jC ji.IE ji.Gm (fun aS gJ=>?_)
  generalize fk.drew=fy at a5 a7 kJ a9 a6 HB bo bp bq hH ⊢
  refine aI 0 ?_
  refine aI 2 ?_
  refine aI 4 ?_
  refine fV 1 hH ?_
  refine fV 3 hH ?_
  refine aI 5 ?_
  refine fV 6 hH ?_
  refine kY 7 (fun K hK=>?_)
  refine KW (w1:=?_) (v:=?_) (by rfl) rfl ?_ ?_
  rotate_left 2
  ·go_simp
   constructor
   ·rfl
   ·rfl
  refine hK.out _ _ ⟨(aO (jG a6.out _) 0).trans rfl,(aO (jG a7.out _) 0).trans rfl,(World.cell?_alloc_lt _ _ _ (World.block_lt_of_cell? _ _ (((HB.out.cell (World.block_lt_of_cell? w _ av)).trans av)))).trans (((HB.out.cell (World.block_lt_of_cell? w _ av)).trans av)),(World.cell?_alloc_lt _ _ _ (World.block_lt_of_cell? _ _ (((HB.out.cell (World.block_lt_of_cell? w _ bP)).trans bP)))).trans (((HB.out.cell (World.block_lt_of_cell? w _ bP)).trans bP)),(World.cell?_alloc_lt _ _ _ (World.block_lt_of_cell? _ _ (((HB.out.cell (World.block_lt_of_cell? w _ ar)).trans ar)))).trans (((HB.out.cell (World.block_lt_of_cell? w _ ar)).trans ar))⟩ (fun hH=>?_)
  clear hK K
  refine fD (some 51) ?_
  refine kY 8 (fun K hK=>?_)
  refine Kd.Je bF (w0:=w) w.heap.size (by rfl) (.tmp 45) (.tmp 51) 26 43 (.agg #[(.string ⟨#[]⟩),(.bool false),(.string ⟨#[]⟩)]) 40 rfl underlying26 o8 rfl (by decide) (by omega) wG aa (⟨(au aH a8).f0,(au aH a8).f1,(au aH a8).f2⟩:aC) [.string ((au aH a8).f0),.bool ((au aH a8).f1),.string ((au aH a8).f2)] (fun aF=>aF≠t_) (fun _=>False) rfl rfl ?rD (fun _ hk=>hk.elim) ?kS ?ku ?lu ?kC ?aL ?_
  (case rD=>exact qX _ _ _ (⟨(au aH a8).f0,(au aH a8).f1,(au aH a8).f2⟩:aC))
  (case lu=>exact ay)
  (case kS=>exact KC)
  (case ku=>exact (aG a5))
  (case kC=>exact (dO ay))
  (case aL=>have:=dr.out;omega)
  intro aiL fl ho hb hg hat
  rw [← dt.out] at ho
  obtain ⟨a7,kJ,a9,a6,HB,d1⟩:=p_ (iE (g:=b0) (o:=.cells #[.slice (some aq) aH.length b2] 28) (aj a7) hg (Kd.iw a5.out a7.out (by decide))) <| p_ (iE (g:=t_) (o:=.cells #[.string fH,.bool fG,.string fE] 43) (aj kJ) hg (Kd.qB a5.out (fun _ hk=>hk))) <| p_ (iE (g:=b3) (o:=.cells #[.slice none 0 0] 28) (aj a9) hg (Kd.iw a5.out a9.out (by decide))) <| p_ (iE (g:=ac) (o:=.cells #[wG] 28) (aj a6) hg (Kd.iw a5.out a6.out (by decide))) <| p_ (hb) <| a_ (ho)
  clear ho hb hg hat
  obtain ⟨ej,ek,dv⟩:=Kd.dJ d1.out
  (first|subst dv|(injection dv with dP fZ dQ;have f_:=dP.symm;have gq:=dQ.symm;clear dP fZ dQ;subst f_;subst gq))
  refine hK.out _ _ ⟨(aO a6.out 0).trans rfl,(aO a7.out 0).trans rfl,((HB.out.cell (World.block_lt_of_cell? w _ av)).trans av),((HB.out.cell (World.block_lt_of_cell? w _ bP)).trans bP),((HB.out.cell (World.block_lt_of_cell? w _ ar)).trans ar)⟩ (fun hH=>?_)
  clear hK K
  refine fD (some 52) ?_
  refine aI 9 ?_
  refine wz 10 (fun K hK=>?_)
  have aar:fl.cell? ⟨ac,0,none⟩=some (wG):=(aO a6.out 0).trans rfl
  have Z9:=dF a6.out 0
  obtain ⟨al,an,ap,aT,am,ao⟩:=kL ae ag ai af aP aN
  refine jr (w1:=?_) (by rfl) rfl ?_ ?_
  rotate_left
  ·go_simp
   rfl
  refine hK.out _ _ ?_
  clear hK K
  refine iF (jB aS.out aB) ?_
  try go_wp2
  go_roundg JY
  case measure=>have:=iq.out;have:=AV.out;omega
  case rel=>exact ⟨(cd),(wrap64 (a8+1)),(d8),(.slice ej d8.length ek),bg,bg,H',⟨(by have:=iq.out;have:=AV.out;omega)⟩,⟨(by (with_reducible repeat (first|apply Kd.dR|apply Kd.dS|apply Kd.bK));exact Kd.bW (aU (Kd.dL d1.out a6.out (by decide))) (fun _ hk=>hk.1))⟩,⟨bH⟩,⟨bH⟩,⟨bH⟩,⟨bH⟩,⟨ay⟩⟩
 subst e7
 rw [if_pos rfl] at H
 obtain ⟨fd,H⟩:=lG H
 have lZ:=m_ fd
 clear fd
 obtain ⟨b1,dx,H⟩:=uU H
 obtain ⟨ff,H⟩:=fU H
 obtain ⟨fh,H⟩:=fU H
 have dy:=m_ H
 clear H
 obtain ⟨aT,al,am,an,ao,ap⟩:=kL af ae aP ag aN ai
 have XB:=cu a6.out
 obtain ⟨b5,b4,bz,bx⟩:=jE bi bh bm fK
 have el:=nP kJ.out
 try go_wp2_with (first|((with_reducible refine wW (b:=.append) (xs:=#[.tmp 30,.tmp 32]) rfl ?_);at_builtin;refine Kd.CS bF (w0:=w) w.heap.size rfl (.tmp 30) (.tmp 32) 26 43 (.agg #[(.string ⟨#[]⟩),(.bool false),(.string ⟨#[]⟩)]) 40 rfl underlying26 o8 rfl (by decide) (by omega) wG aa (⟨fH,fG,fE⟩:aC) [.string fH,.bool fG,.string fE] (fun aF=>aF≠t_) (fun _=>False) rfl rfl ?rD (fun _ hk=>hk.elim) ?kS ?ku ?lu ?kC ?aL ?_;(case rD=>exact qX _ _ _ (⟨fH,fG,fE⟩:aC));(case lu=>exact ay);(case kS=>exact KC);(case ku=>exact (aG a5));(case kC=>exact (dO ay));(case aL=>have:=lZ.out;omega);intro aiJ db ho hb hg hat;rw [← dx.out] at ho;obtain ⟨a7,kJ,a9,a6,HB,ab⟩:=p_ (iE (g:=b0) (o:=.cells #[.slice cf aH.length b2] 28) (aj a7) hg (Kd.iw a5.out a7.out (by decide))) <| p_ (iE (g:=t_) (o:=.cells #[.string fH,.bool fG,.string fE] 43) (aj kJ) hg (Kd.qB a5.out (fun _ hk=>hk))) <| p_ (iE (g:=b3) (o:=.cells #[.slice none 0 0] 28) (aj a9) hg (Kd.iw a5.out a9.out (by decide))) <| p_ (iE (g:=ac) (o:=.cells #[wG] 28) (aj a6) hg (Kd.iw a5.out a6.out (by decide))) <| p_ (hb) <| a_ (ho);clear ho hb hg hat;obtain ⟨bc,bd,em⟩:=Kd.dJ ab.out;subst em;have adn:=cu a6.out))
 have gX:aA (Kd.R bF 43 (db.setCell ⟨ac,0,none⟩ (.slice bc b1.length bd)) w.heap.size (fun aF=>aF≠t_) (.slice bc b1.length bd) b1):=⟨(by (with_reducible repeat (first|apply Kd.dR|apply Kd.dS|apply Kd.bK));exact Kd.bW (aU (Kd.dL ab.out a6.out (by decide))) (fun _ hk=>hk.1))⟩
 have lN:aA ((db.setCell ⟨ac,0,none⟩ (.slice bc b1.length bd)).heap[b0]?=some (.cells #[.slice cf aH.length b2] 28)):=⟨bH⟩
 have lQ:aA ((db.setCell ⟨ac,0,none⟩ (.slice bc b1.length bd)).heap[t_]?=some (.cells #[.string fH,.bool fG,.string fE] 43)):=⟨bH⟩
 have lS:aA ((db.setCell ⟨ac,0,none⟩ (.slice bc b1.length bd)).heap[b3]?=some (.cells #[.slice none 0 0] 28)):=⟨bH⟩
 have lT:aA ((db.setCell ⟨ac,0,none⟩ (.slice bc b1.length bd)).heap[ac]?=some (.cells #[.slice bc b1.length bd] 28)):=⟨bH⟩
 have mV:aA (Below w.heap.size w (db.setCell ⟨ac,0,none⟩ (.slice bc b1.length bd))):=⟨ay⟩
 (try clear ab)
 (try clear a7)
 (try clear kJ)
 (try clear a9)
 (try clear a6)
 (try clear HB)
 generalize (db.setCell ⟨ac,0,none⟩ (.slice bc b1.length bd))=fm at gX lN lQ lS lT mV ⊢
 have ab:=gX
 have a7:=lN
 have kJ:=lQ
 have a9:=lS
 have a6:=lT
 have HB:=mV
 clear gX lN lQ lS lT mV
 obtain ⟨ab,a7,kJ,a9,a6,HB⟩:=p_ (Kd.bK ab.out) <| uG a7 kJ a9 a6 HB
 have dd:0≤(a8:Int):=bC bD
 have de:a8 < (aH.length:Int):=bC bD
 obtain ⟨aw,en,be,fF,dM⟩:=jP lF.out a8 dd de
 have co:=dM
 have cp:=fF
 have cq:=be
 cases en
 replace be:=gu HB.out be
 replace fF:=gu HB.out fF
 replace dM:=gu HB.out dM
 replace dd:=eq_true dd
 replace de:=eq_true de
 refine iH (n:=9) (S:=fun w'=>lD w' b0 (.slice (some aw) aH.length b2) <| zG w' t_ (.string fH) (.bool fG) (.string fE) <| uw w' (aw.add ((a8).toNat * 3)) (.string ((au aH a8).f0)) (.bool ((au aH a8).f1)) (.string ((au aH a8).f2))) (ds:=[]) Gq aB rfl rfl ⟨(aO a7.out 0).trans rfl,vC kJ.out ⟨((HB.out.cell (World.block_lt_of_cell? w _ cq)).trans cq),((HB.out.cell (World.block_lt_of_cell? w _ cp)).trans cp),((HB.out.cell (World.block_lt_of_cell? w _ co)).trans co)⟩⟩ (fun hH=>?_);refine jC ji.xw ji.wM (fun aS gJ=>?_)
 generalize fm.drew=fo at ab a7 kJ a9 a6 HB be fF dM hH ⊢
 refine aI 0 ?_
 refine aI 2 ?_
 refine aI 6 ?_
 refine fV 1 hH ?_
 refine aI 3 ?_
 refine aI 4 ?_
 refine fV 5 hH ?_
 refine fV 7 hH ?_
 refine aI 8 ?_
 refine iF (jB aS.out aB) ?_
 go_upto_if 43 with (fail)
 (try clear b4 al b5 bz an bx ap aT am ao)
 (try clear el)
 (try clear be fF dM)
 obtain ⟨H⟩:=dy
 revert H;refine fJ (fun df H=>?_) fun df H=>?_
 ·have ch:=gZ df
  have dz:=g_ df
  clear df
  try simp only [bI,bY,ch]
  have H':=m_ H
  clear H
  go_wp2
  go_roundg JY
  case measure=>have:=iq.out;have:=AV.out;omega
  case rel=>exact ⟨(true),(wrap64 (a8+1)),(b1),(.slice bc b1.length bd),bg,bg,H',⟨(by have:=iq.out;have:=AV.out;omega)⟩,⟨(aG ab)⟩,⟨(aj a7)⟩,⟨(aj kJ)⟩,⟨(aj a9)⟩,⟨(aj a6)⟩,⟨ay⟩⟩
 have ch:=gU df
 have dz:=gV df
 try simp only [bI,bY,ch]
 obtain ⟨fi,H⟩:=lG H
 have e0:=m_ fi
 clear fi
 obtain ⟨dg,cv⟩:∃ y_:List (aC),y_=(b1++[(⟨(au aH a8).f0,(au aH a8).f1,(au aH a8).f2⟩:aC)]):=⟨_,rfl⟩
 rw [← cv] at H
 have e3:=m_ cv
 clear cv
 have H':=m_ H
 clear H
 try go_wp2
 obtain ⟨ab,a7,kJ,a9,a6,HB⟩:=p_ (Kd.bK ab.out) <| uG a7 kJ a9 a6 HB
 have lg:0≤(a8:Int):=bC bD
 have di:a8 < (aH.length:Int):=bC bD
 obtain ⟨e4,eo,br,bs,bu⟩:=jP lF.out a8 lg di
 have ax:=bu
 have dw:=bs
 have az:=br
 obtain rfl:aw=e4:=(by injection eo)
 replace br:=gu HB.out br
 replace bs:=gu HB.out bs
 replace bu:=gu HB.out bu
 replace lg:=eq_true lg
 replace di:=eq_true di
 refine iH (n:=11) (S:=fun w'=>lD w' ac (.slice bc b1.length bd) <| lD w' b0 (.slice (some aw) aH.length b2) <| uw w' (aw.add ((a8).toNat * 3)) (.string ((au aH a8).f0)) (.bool ((au aH a8).f1)) (.string ((au aH a8).f2))) (ds:=[10]) EF aB rfl rfl ⟨(aO a6.out 0).trans rfl,(aO a7.out 0).trans rfl,((HB.out.cell (World.block_lt_of_cell? w _ az)).trans az),((HB.out.cell (World.block_lt_of_cell? w _ dw)).trans dw),((HB.out.cell (World.block_lt_of_cell? w _ ax)).trans ax)⟩ (fun hH=>?_);refine jC ji.IE ji.Gm (fun aS gJ=>?_)
 generalize fo.drew=fz at ab a7 kJ a9 a6 HB br bs bu hH ⊢
 refine aI 0 ?_
 refine aI 2 ?_
 refine aI 4 ?_
 refine fV 1 hH ?_
 refine fV 3 hH ?_
 refine aI 5 ?_
 refine fV 6 hH ?_
 refine kY 7 (fun K hK=>?_)
 refine KW (w1:=?_) (v:=?_) (by rfl) rfl ?_ ?_
 rotate_left 2
 ·go_simp
  constructor
  ·rfl
  ·rfl
 refine hK.out _ _ ⟨(aO (jG a6.out _) 0).trans rfl,(aO (jG a7.out _) 0).trans rfl,(World.cell?_alloc_lt _ _ _ (World.block_lt_of_cell? _ _ (((HB.out.cell (World.block_lt_of_cell? w _ az)).trans az)))).trans (((HB.out.cell (World.block_lt_of_cell? w _ az)).trans az)),(World.cell?_alloc_lt _ _ _ (World.block_lt_of_cell? _ _ (((HB.out.cell (World.block_lt_of_cell? w _ dw)).trans dw)))).trans (((HB.out.cell (World.block_lt_of_cell? w _ dw)).trans dw)),(World.cell?_alloc_lt _ _ _ (World.block_lt_of_cell? _ _ (((HB.out.cell (World.block_lt_of_cell? w _ ax)).trans ax)))).trans (((HB.out.cell (World.block_lt_of_cell? w _ ax)).trans ax))⟩ (fun hH=>?_)
 clear hK K
 refine fD (some 51) ?_
 refine kY 8 (fun K hK=>?_)
 refine Kd.Je bF (w0:=w) w.heap.size (by rfl) (.tmp 45) (.tmp 51) 26 43 (.agg #[(.string ⟨#[]⟩),(.bool false),(.string ⟨#[]⟩)]) 40 rfl underlying26 o8 rfl (by decide) (by omega) (.slice bc b1.length bd) b1 (⟨(au aH a8).f0,(au aH a8).f1,(au aH a8).f2⟩:aC) [.string ((au aH a8).f0),.bool ((au aH a8).f1),.string ((au aH a8).f2)] (fun aF=>aF≠t_) (fun _=>False) rfl rfl ?rD (fun _ hk=>hk.elim) ?kS ?ku ?lu ?kC ?aL ?_
 (case rD=>exact qX _ _ _ (⟨(au aH a8).f0,(au aH a8).f1,(au aH a8).f2⟩:aC))
 (case lu=>exact ay)
 (case kS=>exact KC)
 (case ku=>exact (aG ab))
 (case kC=>exact (dO ay))
 (case aL=>have:=e0.out;omega)
 intro aiK fp ho hb hg hat
 rw [← e3.out] at ho
 obtain ⟨a7,kJ,a9,a6,HB,d2⟩:=p_ (iE (g:=b0) (o:=.cells #[.slice (some aw) aH.length b2] 28) (aj a7) hg (Kd.iw ab.out a7.out (by decide))) <| p_ (iE (g:=t_) (o:=.cells #[.string fH,.bool fG,.string fE] 43) (aj kJ) hg (Kd.qB ab.out (fun _ hk=>hk))) <| p_ (iE (g:=b3) (o:=.cells #[.slice none 0 0] 28) (aj a9) hg (Kd.iw ab.out a9.out (by decide))) <| p_ (iE (g:=ac) (o:=.cells #[.slice bc b1.length bd] 28) (aj a6) hg (Kd.iw ab.out a6.out (by decide))) <| p_ (hb) <| a_ (ho)
 clear ho hb hg hat
 obtain ⟨ep,eq,e5⟩:=Kd.dJ d2.out
 (first|subst e5|(injection e5 with dP fZ dQ;have f_:=dP.symm;have gq:=dQ.symm;clear dP fZ dQ;subst f_;subst gq))
 refine hK.out _ _ ⟨(aO a6.out 0).trans rfl,(aO a7.out 0).trans rfl,((HB.out.cell (World.block_lt_of_cell? w _ az)).trans az),((HB.out.cell (World.block_lt_of_cell? w _ dw)).trans dw),((HB.out.cell (World.block_lt_of_cell? w _ ax)).trans ax)⟩ (fun hH=>?_)
 clear hK K
 refine fD (some 52) ?_
 refine aI 9 ?_
 refine wz 10 (fun K hK=>?_)
 have aaq:fp.cell? ⟨ac,0,none⟩=some (.slice bc b1.length bd):=(aO a6.out 0).trans rfl
 have Z8:=dF a6.out 0
 refine jr (w1:=?_) (by rfl) rfl ?_ ?_
 rotate_left
 ·go_simp
  rfl
 refine hK.out _ _ ?_
 clear hK K
 refine iF (jB aS.out aB) ?_
 try go_wp2
 go_roundg JY
 case measure=>have:=iq.out;have:=AV.out;omega
 case rel=>exact ⟨(true),(wrap64 (a8+1)),(dg),(.slice ep dg.length eq),bg,bg,H',⟨(by have:=iq.out;have:=AV.out;omega)⟩,⟨(by (with_reducible repeat (first|apply Kd.dR|apply Kd.dS|apply Kd.bK));exact Kd.bW (aU (Kd.dL d2.out a6.out (by decide))) (fun _ hk=>hk.1))⟩,⟨bH⟩,⟨bH⟩,⟨bH⟩,⟨bH⟩,⟨ay⟩⟩

end Go.Proofs.YthejdhjpbpamoaaGreatDoor.jM
