/- Contracts of Go functions: each call returns what the Lean function beside it computes. Conditions: as each theorem states them. -/
import Derived.Test.YthejdhjpbpamoaaGreatDoorPkFnMoves
import Derived.Test.YthejdhjpbpamoaaGreatDoorPFnMovesx1
import Derived.Test.YthejdhjpbpamoaaGreatDoorPFnMovesx6
namespace Go.Proofs.YthejdhjpbpamoaaGreatDoor.jM
open Go.RowKit Go.Proofs.YthejdhjpbpamoaaGreatDoorW.iK Go.Proofs.YthejdhjpbpamoaaGreatDoorW.lX Go.Proofs.YthejdhjpbpamoaaGreatDoorW.oV Go.Proofs.Tryz
attribute [local go_sem] qI qM qL qP qK qO qJ qN   -- for this text's walks alone
set_option linter.unusedVariables false
set_option maxHeartbeats 8000000
set_option maxRecDepth 100000
set_option linter.unusedSimpArgs false

mutual
def iV.l0:Nat→ByteArray→ByteArray→Int→List (aC)→List (aC)→Option ((List (aC)))
 | 0,_,_,_,_,_=>none
 | k+1,x1,x2,h_,a5,a6=>if h_ < (a5.length:Int) then (if 0≤h_ then (if ((au a5 h_).f0).toList=x1.toList then (iV.j1 k x1 x2 h_ true a5 a6 ((au a5 h_).f0) ((au a5 h_).f1) ((au a5 h_).f2)) else ((oH.f k ((au a5 h_).f0) x1).bind fun a7=>(iV.j1 k x1 x2 h_ a7 a5 a6 ((au a5 h_).f0) ((au a5 h_).f1) ((au a5 h_).f2)))) else (none)) else (some a6)
def iV.j1:Nat→ByteArray→ByteArray→Int→Bool→List (aC)→List (aC)→ByteArray→Bool→ByteArray→Option ((List (aC)))
 | 0,_,_,_,_,_,_,_,_,_=>none
 | k+1,x1,x2,h_,ac,a6,a7,a5,a8,a9=>if ac=true then (if 0≤(x1.size:Int) then (if (x1.size:Int)≤(a5.size:Int) then ((some (a5.extract ((x1.size:Int):Int).toNat a5.size:ByteArray)).bind fun aa=>(if x2.size+aa.size≤9223372036854775807 then ((some (x2++aa:ByteArray)).bind fun ab=>(iV.j2 k x1 x2 h_ a6 a7 ab a8 a9)) else (none))) else (none)) else (none)) else (iV.j2 k x1 x2 h_ a6 a7 a5 a8 a9)
def iV.j2:Nat→ByteArray→ByteArray→Int→List (aC)→List (aC)→ByteArray→Bool→ByteArray→Option ((List (aC)))
 | 0,_,_,_,_,_,_,_,_=>none
 | k+1,x1,x2,h_,a5,a6,a7,a8,a9=>iV.l1 k x1 x2 h_ 0 a5 a6 a7 a8 a9
def iV.l1:Nat→ByteArray→ByteArray→Int→Int→List (aC)→List (aC)→ByteArray→Bool→ByteArray→Option ((List (aC)))
 | 0,_,_,_,_,_,_,_,_,_=>none
 | k+1,x1,x2,h_,aa,a7,a5,a6,a8,a9=>if aa < (a5.length:Int) then (if 0≤aa then (if ((Op.bytesLess a6.toList (((au a5 aa).f0).toList))=true) then ((some (([]:List (aC)):List (aC))).bind fun ab=>(if aa≤(a5.length:Int) then ((some (a5.take (aa:Int).toNat:List (aC))).bind fun ac=>(if ab.length+ac.length < 3518437208883 then ((some (ab++ac:List (aC))).bind fun ae=>((some (([(⟨a6,a8,a9⟩:aC)]:List (aC)):List (aC))).bind fun af=>(if ae.length+af.length < 3518437208883 then ((some (ae++af:List (aC))).bind fun ag=>((some (a5.drop (aa:Int).toNat:List (aC))).bind fun aP=>(if ag.length+aP.length < 3518437208883 then (iV.l0 k x1 x2 (wrap64 (h_+1)) a7 (ag++aP)) else (none)))) else (none)))) else (none))) else (none))) else (iV.l1 k x1 x2 h_ (wrap64 (aa+1)) a7 a5 a6 a8 a9)) else (none)) else ((some (([]:List (aC)):List (aC))).bind fun ai=>(if 0≤aa then (if aa≤(a5.length:Int) then ((some (a5.take (aa:Int).toNat:List (aC))).bind fun aN=>(if ai.length+aN.length < 3518437208883 then ((some (ai++aN:List (aC))).bind fun aT=>((some (([(⟨a6,a8,a9⟩:aC)]:List (aC)):List (aC))).bind fun al=>(if aT.length+al.length < 3518437208883 then ((some (aT++al:List (aC))).bind fun am=>((some (a5.drop (aa:Int).toNat:List (aC))).bind fun an=>(if am.length+an.length < 3518437208883 then (iV.l0 k x1 x2 (wrap64 (h_+1)) a7 (am++an)) else (none)))) else (none)))) else (none))) else (none)) else (none)))
end
def iV.f (k:Nat) (a5:List (aC)) (a1:ByteArray) (a2:ByteArray):Option ((List (aC))):=iV.l0 k a1 a2 0 a5 ([]:List (aC))
def iV.T9:Bool × List (List Nat × List Nat):=(true,[([],[]),([],[]),([1],[1]),([2],[2]),([0,3],[0,3]),([4],[4]),([5],[5]),([6,5],[5,6]),([5],[5]),([7,8,5],[5,7,8]),([9,5],[5,9]),([10,5],[5,10]),([5],[5]),([12,5],[5,12]),([11,13,5],[5,11,13]),([5,14],[5,14])])
def iV.B9:List Nat:=[0,0,2,6,15,31,63,127,63,511,1023,2047,63,4159,16383,32767]
theorem iV.xw:kZ .any (opsOf Tryz.f11 9)=iV.T9:=by kernel_rfl
theorem iV.wM:sF iV.T9.2 iV.B9=true:=by kernel_rfl
def iV.T11:Bool × List (List Nat × List Nat):=(true,[([],[]),([],[]),([1],[1]),([],[]),([2,3],[2,3]),([0,4],[0,4]),([],[]),([6],[6]),([5,7,5],[5,7]),([8,8,0,1,2,3,4,5,6,7,8],[8])])
def iV.B11:List Nat:=[0,0,2,0,14,31,0,64,255,511]
theorem iV.WA:kZ .any (opsOf Tryz.f11 11)=iV.T11:=by kernel_rfl
theorem iV.Rf:sF iV.T11.2 iV.B11=true:=by kernel_rfl
theorem iV.calls (k:Nat) (d3:Option Addr) (al:Nat) (aH:List (aC)) (a1:ByteArray) (a2:ByteArray) (r:List (aC)) (w:World) (da:Kd.C bF w d3 aH.length aH) (db:aH.length≤al) (h:iV.f k aH a1 a2=some r) :
  Calls Tryz.prog 11 #[.agg #[.slice d3 aH.length al],.string a1,.string a2] w fun e w'=>∃ gQ:Value,e=.returned (.agg #[gQ])∧Kd.R bF 43 w' w.heap.size (fun _=>True) gQ r∧Below w.heap.size w w':=by
 have oq:=underlying28
 have rF:=underlying43
 have lF:=m_ da
 have fu:=m_ db
 clear da db
 have HB:=m_ (Below.refl w.heap.size w)
 unfold iV.f at h
 have H:=h
 clear h
 have H':=m_ H
 clear H
 go_enter func11,ntmps11
 go_wp2_with (first|((with_reducible refine dG 3 ?_);refine dU 3 (cs:=#[.slice d3 aH.length al]) 28 ?_;intro aN hg w4 hbox hb;obtain ⟨HB,a7,fw,fx⟩:=kE ay hb hbox hg;clear hb hbox hg)|((with_reducible refine dG 6 ?_);refine dU 6 (cs:=#[.slice none 0 0]) 28 ?_;intro ai hg w5 hbox hb;obtain ⟨a7,HB,a8,fy,fz,b2,b3⟩:=qj (aj a7) ay hb hbox hg;clear hb hbox hg)|((with_reducible refine dG 7 ?_);refine dU 7 (cs:=#[.slice none 0 0]) 28 ?_;intro ab hg w6 hbox hb;obtain ⟨a7,a8,HB,a6,g6,g7,ao,ap,aq,ar⟩:=wu (aj a7) (aj a8) ay hb hbox hg;clear hb hbox hg;obtain ⟨am,an,ax,dw⟩:=jE ap ao ar aq;have Ee:=cu a6.out))
 go_loopg [8] k (fun kq v8 w'=>∃ (dD:Int) (a5:List (aC)) (zx:Value),v8=ah dD∧aA (iV.l0 kq a1 a2 dD aH a5=some r)∧aA (kq≤k)∧aA (Kd.R bF 43 w' w.heap.size (fun _=>True) zx a5)∧aA (w'.heap[aN]?=some (.cells #[(.slice d3 aH.length al)] 28))∧aA (w'.heap[ai]?=some (.cells #[(.slice none 0 0)] 28))∧aA (w'.heap[ab]?=some (.cells #[zx] 28))∧aA (Below w.heap.size w w'))
 case atStart=>exact ⟨(0),(([]:List (aC))),(.slice none 0 0),bg,H',⟨Nat.le_refl _⟩,⟨tN⟩,⟨bH⟩,⟨bH⟩,⟨bH⟩,⟨ay⟩⟩
 case round =>
 clear H'
 try clear Ee
 obtain ⟨dD,a5,zx,rfl,HA,iq,fC,a7,a8,a6,HB⟩:=hrel
 cases gk with
 | zero=>exact absurd HA.out (by simp [iV.l0])
 | succ k1 =>
 obtain ⟨H⟩:=HA
 simp only [iV.l0] at H
 have e8:=m_ H
 clear H
 obtain ⟨az,b0⟩:=iJ b2 b3
 have FV:=cu a7.out
 go_upto_if 17 with (fail)
 (try clear az an b0 dw am ax)
 (try clear FV)
 obtain ⟨H⟩:=e8
 revert H;refine gI (fun b5 H=>?_) fun b5 H=>?_
 rotate_left
 ·try simp only [bI,bY,b5]
  obtain rfl:=cZ H
  obtain ⟨am,an,ax,dw⟩:=jE ap ao ar aq
  have ajX:=cu a6.out
  obtain ⟨e9,ea,eb⟩:=Kd.dJ fC.out
  subst eb
  have ajZ:=cu a8.out
  go_wp2
  refine bodyPost_ret (results_cell_row rfl _ _ ai 28 #[.slice e9 a5.length ea] (0,0) _ rfl bH underlying28 rfl aB) rfl ?_
  exact ⟨_,b_,(by (with_reducible repeat (first|apply Kd.dR|apply Kd.dS|apply Kd.bK));exact Kd.bW (aU (Kd.dL fC.out a8.out (by decide))) (fun _ hk=>trivial)),ay⟩
 try simp only [bI,bY,b5]
 obtain ⟨co,H⟩:=fU H
 have dp:=m_ H
 clear H
 obtain ⟨az,b0,an,am⟩:=jE b2 b3 ao ap
 have Qk:=cu a7.out
 have cc:0≤(dD:Int):=bC bD
 have cd:dD < (aH.length:Int):=bC bD
 obtain ⟨aT,f7,bP,av,aw⟩:=jP lF.out dD cc cd
 cases f7
 replace bP:=gu HB.out bP
 replace av:=gu HB.out av
 replace aw:=gu HB.out aw
 replace cc:=eq_true cc
 replace cd:=eq_true cd
 go_upto_region 6 with (first|((with_reducible refine dG 9 ?_);refine dU 9 (cs:=#[.string (⟨#[]⟩:ByteArray),.bool false,.string (⟨#[]⟩:ByteArray)]) 43 ?_;intro fQ hg ir hbox hb;obtain ⟨fC,a7,a8,a6,HB,eU,g8,g9,b9,ce,ba,cf,b4,bb⟩:=p_ (Kd.bn (Kd.Mc (aG fC) fQ (Nat.le_of_eq hg.symm)) hb) <| yF (aj a7) (aj a8) (aj a6) ay hb hbox hg;clear hb hbox hg;obtain ⟨cp,cq,cr,ct,bp,bq⟩:=kL ce b9 cf ba bb b4;have bu:=nP eU.out))
 (try simp only [Act.put,List.setIfInBounds_toArray,List.set_cons_zero,List.set_cons_succ])
 go_cut [34] (fun v34 wc=>∃ (kq:Nat) (dM:Bool),v34=.bool dM∧aA (iV.j1 kq a1 a2 dD dM aH a5 ((au aH dD).f0) ((au aH dD).f1) ((au aH dD).f2)=some r)∧aA (kq≤k1)∧aA (Kd.R bF 43 wc w.heap.size (fun aF=>aF≠fQ) zx a5)∧aA (wc.heap[aN]?=some (.cells #[(.slice (some aT) aH.length al)] 28))∧aA (wc.heap[ai]?=some (.cells #[(.slice none 0 0)] 28))∧aA (wc.heap[ab]?=some (.cells #[zx] 28))∧aA (wc.heap[fQ]?=some (.cells #[.string ((au aH dD).f0),.bool ((au aH dD).f1),.string ((au aH dD).f2)] 43))∧aA (Below w.heap.size w wc))
 case first =>
  obtain ⟨H⟩:=dp
  revert H;refine fJ (fun d2 H=>?_) fun d2 H=>?_
  ·have b6:=gZ d2
   have bv:=g_ d2
   clear d2
   try simp only [bI,bY,b6]
   have H':=m_ H
   clear H
   have cg:=nP eU.out
   go_wp2
   go_meet
   case rel=>exact ⟨_,(true),bg,H',⟨KE⟩,⟨(by (with_reducible repeat (first|apply Kd.dR|apply Kd.dS|apply Kd.bK));exact Kd.bW (aU (aU (aU (Kd.bW fC.out (fun aF hk=>(⟨hk,hk.2⟩:_∧aF≠fQ)))))) (fun _ hk=>hk.1.2))⟩,⟨bH⟩,⟨bH⟩,⟨bH⟩,⟨bH⟩,⟨ay⟩⟩
  have b6:=gU d2
  have bv:=gV d2
  try simp only [bI,bY,b6]
  obtain ⟨ed,ic,H⟩:=bd_ H
  have H':=m_ H
  clear H
  have ch:=nP eU.out
  go_wp2_with (first|(go_at_call 15;(with_reducible refine (oH.calls k1 ((au aH dD).f0) a1 ed _ ic.out).mono ?_);rintro e iu ⟨rfl,hb⟩;have eP:=p_ (Kd.bn (by (with_reducible repeat (first|apply Kd.dR|apply Kd.dS|apply Kd.bK));exact (Kd.bW (aU (aU (aU (Kd.bW fC.out (fun aF hk=>(⟨hk,hk.2⟩:_∧aF≠fQ)))))) (fun _ dV=>dV.1))) hb) <| p_ (bG (g:=aN) (o:=.cells #[.slice (some aT) aH.length al] 28) (lM a7.out b9.out) hb) <| p_ (bG (g:=ai) (o:=.cells #[.slice none 0 0] 28) (lM a8.out ba.out) hb) <| p_ (bG (g:=ab) (o:=.cells #[zx] 28) (lM a6.out b4.out) hb) <| p_ (bG (g:=fQ) (o:=.cells #[.string ((au aH dD).f0),.bool ((au aH dD).f1),.string ((au aH dD).f2)] 43) (wB eU.out) hb) <| a_ (dI ay hb);clear fC a7 a8 a6 eU HB;obtain ⟨fC,a7,a8,a6,eU,HB⟩:=eP;(try clear hb);(try clear hk)))
  go_meet
  case rel=>exact ⟨_,(ed),bg,H',⟨KE⟩,⟨(by (with_reducible repeat (first|apply Kd.dR|apply Kd.dS|apply Kd.bK));exact Kd.bW fC.out (fun _ hk=>hk.2))⟩,⟨(aj a7)⟩,⟨(aj a8)⟩,⟨(aj a6)⟩,⟨(aj eU)⟩,⟨ay⟩⟩
 case rest =>
 clear dp
 try clear d4;try clear b5;try clear ec;try clear co;try clear Qk;try clear bu;try clear Qk;try clear bP;try clear av;try clear aw;try clear cc;try clear cd
 obtain ⟨kq,dM,rfl,HA,Em,fC,a7,a8,a6,eU,HB⟩:=hcut
 cases kq with
 | zero=>exact absurd HA.out (by simp [iV.j1])
 | succ OE =>
 obtain ⟨H⟩:=HA
 simp only [iV.j1] at H
 have dq:=m_ H
 clear H
 go_upto_if 34 with (fail)
 go_cut [] (fun wc=>∃ (kq:Nat) (jD:ByteArray),aA (iV.j2 kq a1 a2 dD aH a5 jD ((au aH dD).f1) ((au aH dD).f2)=some r)∧aA (kq≤OE)∧aA (Kd.R bF 43 wc w.heap.size (fun aF=>aF≠fQ) zx a5)∧aA (wc.heap[aN]?=some (.cells #[(.slice (some aT) aH.length al)] 28))∧aA (wc.heap[ai]?=some (.cells #[(.slice none 0 0)] 28))∧aA (wc.heap[ab]?=some (.cells #[zx] 28))∧aA (wc.heap[fQ]?=some (.cells #[.string jD,.bool ((au aH dD).f1),.string ((au aH dD).f2)] 43))∧aA (Below w.heap.size w wc))
 case first =>
  obtain ⟨H⟩:=dq
  by_cases e4:dM=true
  rotate_left
  ·replace e4:=Bool.eq_false_iff.mpr e4
   subst e4
   rw [if_neg iO] at H
   have H':=m_ H
   clear H
   go_wp2
   go_meet
   case rel=>exact ⟨_,(((au aH dD).f0)),H',⟨(by have:=iq.out;have:=Em.out;first|omega|exact Nat.le_refl _)⟩,⟨(aG fC)⟩,⟨(aj a7)⟩,⟨(aj a8)⟩,⟨(aj a6)⟩,⟨(aj eU)⟩,⟨ay⟩⟩
  subst e4
  rw [if_pos rfl] at H
  obtain ⟨dd,de,H⟩:=kT H
  obtain ⟨df,dg,H⟩:=kT H
  obtain ⟨d5,lg⟩:∃ y_:ByteArray,(((au aH dD).f0).extract ((a1.size:Int):Int).toNat ((au aH dD).f0).size)=y_:=⟨_,rfl⟩
  replace H:(if a2.size+d5.size≤9223372036854775807 then ((some (a2++d5:ByteArray)).bind fun d6=>(iV.j2 OE a1 a2 dD aH a5 d6 ((au aH dD).f1) ((au aH dD).f2))) else (none))=some r:=by rw [← lg];exact (Option.bind_some _ _).symm.trans H
  (try simp only [Int.toNat_natCast] at lg)
  obtain ⟨e5,H⟩:=lG H
  have di:=eq_true e5
  have dj:=lC e5
  try have dk:(9223372036854775807 < a2.size+d5.size)=False:=eq_false (Nat.not_lt.2 e5)
  clear e5
  obtain ⟨d6,dl⟩:∃ y_:ByteArray,(a2++d5)=y_:=⟨_,rfl⟩
  replace H:(iV.j2 OE a1 a2 dD aH a5 d6 ((au aH dD).f1) ((au aH dD).f2))=some r:=by rw [← dl];exact (Option.bind_some _ _).symm.trans H
  (try simp only [Int.toNat_natCast] at dl)
  have H':=m_ H
  clear H
  have d7:=nP eU.out
  go_wp2
  go_meet
  case rel=>exact ⟨_,(d6),H',⟨(by have:=iq.out;have:=Em.out;first|omega|exact Nat.le_refl _)⟩,⟨(by (with_reducible repeat (first|apply Kd.dR|apply Kd.dS|apply Kd.bK));exact Kd.bW (aU (Kd.bW fC.out (fun aF hk=>(⟨hk,hk⟩:_∧aF≠fQ)))) (fun _ hk=>hk.1))⟩,⟨bH⟩,⟨bH⟩,⟨bH⟩,⟨bH⟩,⟨ay⟩⟩
 case rest =>
 clear dq
 obtain ⟨kq,jD,HA,I7,fC,a7,a8,a6,eU,HB⟩:=hcut
 cases kq with
 | zero=>exact absurd HA.out (by simp [iV.j2])
 | succ UN =>
 obtain ⟨H⟩:=HA
 simp only [iV.j2] at H
 have H':=m_ H
 clear H
 go_wp2
 go_loopg [10] UN (fun kq v10 w'=>∃ (a9:Int),v10=ah a9∧aA (iV.l1 kq a1 a2 dD a9 aH a5 jD ((au aH dD).f1) ((au aH dD).f2)=some r)∧aA (kq≤UN)∧aA (Kd.R bF 43 w' w.heap.size (fun aF=>aF≠fQ) zx a5)∧aA (w'.heap[aN]?=some (.cells #[(.slice (some aT) aH.length al)] 28))∧aA (w'.heap[ai]?=some (.cells #[(.slice none 0 0)] 28))∧aA (w'.heap[ab]?=some (.cells #[zx] 28))∧aA (w'.heap[fQ]?=some (.cells #[.string jD,.bool ((au aH dD).f1),.string ((au aH dD).f2)] 43))∧aA (Below w.heap.size w w'))
 case atStart=>exact ⟨(0),bg,H',⟨Nat.le_refl _⟩,⟨(aG fC)⟩,⟨(aj a7)⟩,⟨(aj a8)⟩,⟨(aj a6)⟩,⟨(aj eU)⟩,⟨ay⟩⟩
 case round =>
 clear H'
 obtain ⟨a9,rfl,HA,I8,fC,a7,a8,a6,eU,HB⟩:=hrel
 cases gk with
 | zero=>exact absurd HA.out (by simp [iV.l1])
 | succ k4 =>
 obtain ⟨H⟩:=HA
 simp only [iV.l1] at H
 revert H;refine gI (fun eh H=>?_) fun eh H=>?_
 rotate_left
 ·obtain ⟨dr,bw,H⟩:=uU H
  obtain ⟨gr,gs,H⟩:=kT H
  obtain ⟨gt,zh,H⟩:=kT H
  obtain ⟨b7,br,H⟩:=uU H
  obtain ⟨gv,H⟩:=lG H
  have jg:=m_ gv
  clear gv
  obtain ⟨dt,cv,H⟩:=uU H
  obtain ⟨bh,bc,H⟩:=uU H
  obtain ⟨gw,H⟩:=lG H
  have ei:=m_ gw
  clear gw
  obtain ⟨ej,ek,H⟩:=uU H
  have gx:=eq_true (bC bD:0≤a9)
  have yN:=eq_true (bC bD:a9≤(a5.length:Int))
  obtain ⟨bi,cw,H⟩:=uU H
  obtain ⟨gz,H⟩:=lG H
  have el:=m_ gz
  clear gz
  obtain ⟨du,cx⟩:∃ y_:List (aC),y_=(ej++bi):=⟨_,rfl⟩
  rw [← cx] at H
  have em:=m_ cx
  clear cx
  have H':=m_ H
  clear H
  try go_wp2
  obtain ⟨fC,a7,a8,a6,eU,HB⟩:=p_ (Kd.bK fC.out) <| uG a7 a8 a6 eU HB
  obtain ⟨ac,ae,en⟩:=Kd.dJ fC.out
  (first|subst en|(injection en with dP fZ dQ;have f_:=dP.symm;have gq:=dQ.symm;clear dP fZ dQ;subst f_;subst gq))
  refine iH (n:=16) (S:=fun w'=>w'.cell? ⟨ab,0,none⟩=some (.slice ac a5.length ae)) (ds:=[]) Gs aB rfl rfl ((aO a6.out 0).trans rfl) (fun hH=>?_);refine jC iV.xw iV.wM (fun aS gJ=>?_)
  generalize wr.drew=ii at fC a7 a8 a6 eU HB hH ⊢
  refine eY 0 43 RH aS ?_
  refine eY 1 44 RI aS ?_
  refine ng (i:=2) (N:=some 45) (v:=?_) (a':=?_) RJ rfl rfl (AA aS.out gJ.out aB) (fun _ _ _ h=>h) (Or.inl ⟨(by rfl),?_⟩) hH ?_ ?_
  rotate_left
  ·intro w' s0
   go_simp
   with_reducible rfl
  rotate_left
  ·simp only [Act.put,List.setIfInBounds_toArray,List.set_cons_zero,List.set_cons_succ,bI,bY]
   rfl
  refine eY 3 46 Rt aS ?_
  refine eY 4 47 Ru aS ?_
  refine eY 5 48 Rw aS ?_
  refine uo 6 49 Na aS ?_
  refine uo 7 50 Rx aS ?_
  refine uo 8 51 Ry aS ?_
  refine uo 9 52 RD aS ?_
  refine uo 10 53 RF aS ?_
  refine uo 11 54 Rz aS ?_
  refine uo 12 55 Nb aS ?_
  refine uo 13 56 EG aS ?_
  refine uo 14 57 Nc aS ?_
  refine eY 15 58 Nh aS ?_
  refine iF (jB aS.out aB) ?_
  try go_wp2
  obtain ⟨fC,a7,a8,a6,eU,HB⟩:=p_ (Kd.bK fC.out) <| uG a7 a8 a6 eU HB
  have fc:(a9:Int)≤((a5.length:Int):Int):=bC bD
  obtain ⟨ah8,TV,_,aav,_⟩:=info_parts o8
  have Uc:a5.length≤ae:=(Kd.bZ fC.out).2.1
  have TL:Kd.C bF _ ac a5.length a5:=(Kd.bZ fC.out).2.2
  have ZN:=EM (P:=Tryz.prog) 26 43 .i64 underlying26 TV ac a5.length ae a9 (bC bD) fc Uc
  have Oj:=Kd.xC (m:=(a9:Int).toNat) TL (by omega)
  have dv:b7.length=(a9:Int).toNat:=(by rw [br.out,List.length_take];omega)
  rw [← br.out] at Oj
  rw [← dv] at ZN
  have vV:=m_ Oj
  have h8:=m_ (show b7.length≤ae from by omega)
  clear Oj TL Uc TV aav
  have adZ:=m_ dv
  clear dv
  have L6:=m_ (show (a9:Int).toNat≤a5.length from by omega)
  replace fc:=eq_true fc
  refine iH (n:=10) (S:=fun w'=>lD w' ab (.slice ac a5.length ae) <| zH w' fQ (.string jD) (.bool ((au aH dD).f1)) (.string ((au aH dD).f2))) (ds:=[]) MO aB rfl rfl ⟨(aO a6.out 0).trans rfl,qC eU.out⟩ (fun hH=>?_);refine jC iV.WA iV.Rf (fun aS gJ=>?_)
  generalize ii.drew=iv at fC a7 a8 a6 eU HB vV hH ⊢
  refine eY 1 62 MP aS ?_
  refine eY 3 64 MQ aS ?_
  refine pJ 2 63 RN aS gJ hH ?_
  refine eY 4 65 RP aS ?_
  refine pJ 6 67 RQ aS gJ hH ?_
  refine H_ (σ:=Value × Value × Value) 2 zO (fun s_=>[(61,s_.1),(66,s_.2.1),(68,s_.2.2)]) (fun s_ w'=>(lD w' ab (.slice ac a5.length ae) <| zH w' fQ (.string jD) (.bool ((au aH dD).f1)) (.string ((au aH dD).f2)))∧(Kd.R bF 43 w' w.heap.size (fun aF=>some aF≠(s_.2.2:Value).ownBlock∧some aF≠(.slice ac a5.length ae:Value).ownBlock∧aF≠fQ) s_.2.1 dt)∧(Kd.R bF 43 w' w.heap.size (fun aF=>some aF≠(s_.2.1:Value).ownBlock∧some aF≠(.slice ac a5.length ae:Value).ownBlock∧aF≠fQ) s_.2.2 bh)∧(Kd.R bF 43 w' w.heap.size (fun aF=>some aF≠(s_.2.1:Value).ownBlock∧some aF≠(s_.2.2:Value).ownBlock∧aF≠fQ) (.slice ac a5.length ae) a5)∧(w'.heap[aN]?=some (.cells #[.slice (some aT) aH.length al] 28))∧(w'.heap[ai]?=some (.cells #[.slice none 0 0] 28))∧(w'.heap[ab]?=some (.cells #[.slice ac a5.length ae] 28))∧(w'.heap[fQ]?=some (.cells #[.string jD,.bool ((au aH dD).f1),.string ((au aH dD).f2)] 43))∧(Below w.heap.size w w')) ?_ ?_
  rotate_left
  ·intro uf
   refine AO (i:=0) (j:=7) (Ni:=some 61) (yt:=some 68) RS RU rfl rfl rfl rfl (AP aS.out aB) (by decide) (by decide) (fun K hK=>?_) (fun K hK=>?_)
   ·skip
    refine Kd.xH bF _ 43 ?hg (N:=61) ?hd (xs:=([]:List (aC))) (inner:=[]) (ok:=fun _=>True) (iT:=fun _=>True) ?hr ?hp (fun _ hk=>hk) trivial (Below.refl _ _) (Nat.le_refl _) (by simp) ?_;(case hd=>rfl);(case hg=>rfl);(case hr=>first|(go_simp;done)|(go_simp;rfl));(case hp=>exact (bM.none _ _))
    intro BP ij wY hb jc jd
    clear jc jd
    (first|rw [← bw.out] at wY|(simp only [Int.reduceToNat] at wY;rw [← bw.out] at wY))
    obtain ⟨fC,af,a7,a8,a6,eU,vV,HB⟩:=p_ (Kd.iY (aG fC) (Kd.iW wY) hb) <| p_ (Kd.dK (Kd.vg (Kd.iZ wY (Kd.iD (aG fC))) (g:=fQ) (o:=.cells #[.string jD,.bool ((au aH dD).f1),.string ((au aH dD).f2)] 43) (aj eU)) (dO ay)) <| p_ (bG (aj a7) hb) <| p_ (bG (aj a8) hb) <| p_ (bG (aj a6) hb) <| p_ (bG (aj eU) hb) <| p_ (Kd.qg FM hb) <| a_ (dI ay hb)
    clear hb wY
    refine hK.out _ _ ⟨(aO a6.out 0).trans rfl,qC eU.out⟩ (fun hH=>?_)
    clear hK K
    refine fD (some 61) ?_
    refine AO (i:=5) (j:=7) (Ni:=some 66) (yt:=some 68) MR Jr rfl rfl rfl rfl (AP aS.out aB) (by decide) (by decide) (fun K hK=>?_) (fun K hK=>?_)
    ·skip
     refine Kd.AZ bF (w0:=w) w.heap.size (by rfl) (.tmp 61) (.tmp 65) 26 43 (.agg #[(.string ⟨#[]⟩),(.bool false),(.string ⟨#[]⟩)]) 40 rfl underlying26 o8 rfl (by decide) (by omega) BP dr b7 _ _ _ (fun aF=>some aF≠(.slice ac a5.length ae:Value).ownBlock∧aF≠fQ) (fun _=>False) rfl rfl ?ku ?aR (fun _ _ h=>h) (fun _ h=>h.elim) ?kS ?lu ?kC ?aL ?_
     (case aR=>exact PW)
     (case lu=>exact ay)
     (case kS=>exact WW)
     (case ku=>exact (by (with_reducible repeat (first|apply Kd.dR|apply Kd.dS|apply Kd.bK));exact Kd.bW af.out (fun _ hk=>⟨hk.1.2,hk.2⟩)))
     (case kC=>exact (dO ay))
     (case aL=>have:=jg.out;omega)
     intro zA fd ho hb hg hat
     rw [← cv.out] at ho
     have eP:=p_ (Kd.nZ (ok:=(fun aF=>aF≠fQ)) (aG fC) hg hat) <| p_ (iE (g:=aN) (o:=.cells #[.slice (some aT) aH.length al] 28) (aj a7) hg (Kd.iw af.out a7.out (by decide))) <| p_ (iE (g:=ai) (o:=.cells #[.slice none 0 0] 28) (aj a8) hg (Kd.iw af.out a8.out (by decide))) <| p_ (iE (g:=ab) (o:=.cells #[.slice ac a5.length ae] 28) (aj a6) hg (Kd.iw af.out a6.out (by decide))) <| p_ (iE (g:=fQ) (o:=.cells #[.string jD,.bool ((au aH dD).f1),.string ((au aH dD).f2)] 43) (aj eU) hg (Kd.qB af.out (fun _ hk=>hk.2))) <| p_ (hb) <| p_ ((show Kd.C bF fd ac b7.length b7 from by rw [br.out];exact Kd.xC (m:=(a9:Int).toNat) ((Kd.bZ (Kd.nZ (ok:=(fun aF=>aF≠fQ)) (aG fC) hg hat)).2.2) L6.out)) <| a_ (ho)
     clear fC a7 a8 a6 eU HB vV af
     obtain ⟨fC,a7,a8,a6,eU,HB,vV,wK⟩:=eP
     clear ho hb hg hat
     refine hK.out _ _ ⟨(aO a6.out 0).trans rfl,qC eU.out⟩ (fun hH=>?_)
     clear hK K
     refine fD (some 66) ?_
     refine gB (i:=7) (N:=some 68) zO rfl rfl (jW aS.out aB) (by decide) (fun K hK=>?_)
     refine Kd.xH bF _ 43 ?hg (N:=68) ?hd (xs:=([(⟨jD,((au aH dD).f1),((au aH dD).f2)⟩:aC)]:List (aC))) (inner:=[.string jD,.bool ((au aH dD).f1),.string ((au aH dD).f2)]) (ok:=fun _=>True) (iT:=fun _=>True) ?hr ?hp (fun _ hk=>hk) trivial (Below.refl _ _) (Nat.le_refl _) (by simp) ?_;(case hd=>rfl);(case hg=>rfl);(case hr=>first|(go_simp;done)|(go_simp;rfl));(case hp=>exact FK)
     intro vS Af Dk hb jc jd
     clear jc jd
     (first|rw [← bc.out] at Dk|(simp only [Int.reduceToNat] at Dk;rw [← bc.out] at Dk))
     obtain ⟨fC,wK,qy,a7,a8,a6,eU,vV,HB⟩:=p_ (Kd.iY (aG fC) (Kd.iW Dk) hb) <| p_ (Kd.iY (aG wK) (Kd.iW Dk) hb) <| p_ (Kd.dK (Kd.vg (Kd.iZ (Kd.iZ Dk (Kd.iD (aG fC))) (Kd.iD (aG wK))) (g:=fQ) (o:=.cells #[.string jD,.bool ((au aH dD).f1),.string ((au aH dD).f2)] 43) (aj eU)) (dO ay)) <| p_ (bG (aj a7) hb) <| p_ (bG (aj a8) hb) <| p_ (bG (aj a6) hb) <| p_ (bG (aj eU) hb) <| p_ (Kd.qg FM hb) <| a_ (dI ay hb)
     clear hb Dk
     refine hK.out _ _ ⟨(aO a6.out 0).trans rfl,qC eU.out⟩ (fun hH=>?_)
     clear hK K
     refine fD (some 68) ?_
     exact rW wF (uf (BP,zA,vS) _ ⟨hH,(by (with_reducible repeat (first|apply Kd.dR|apply Kd.dS|apply Kd.bK));exact Kd.bW wK.out (fun _ hk=>⟨hk.2,⟨hk.1.1,hk.1.2⟩⟩)),(by (with_reducible repeat (first|apply Kd.dR|apply Kd.dS|apply Kd.bK));exact Kd.bW qy.out (fun _ hk=>⟨hk.1.2,⟨hk.1.1.2,hk.2⟩⟩)),Xj,(aj a7),(aj a8),(aj a6),(aj eU),ay⟩)
    ·skip
     refine Kd.xH bF _ 43 ?hg (N:=68) ?hd (xs:=([(⟨jD,((au aH dD).f1),((au aH dD).f2)⟩:aC)]:List (aC))) (inner:=[.string jD,.bool ((au aH dD).f1),.string ((au aH dD).f2)]) (ok:=fun _=>True) (iT:=fun _=>True) ?hr ?hp (fun _ hk=>hk) trivial (Below.refl _ _) (Nat.le_refl _) (by simp) ?_;(case hd=>rfl);(case hg=>rfl);(case hr=>first|(go_simp;done)|(go_simp;rfl));(case hp=>exact FK)
     intro vS fd vN hb jc jd
     clear jc jd
     (first|rw [← bc.out] at vN|(simp only [Int.reduceToNat] at vN;rw [← bc.out] at vN))
     obtain ⟨fC,af,qy,a7,a8,a6,eU,vV,HB⟩:=p_ (Kd.iY (aG fC) (Kd.iW vN) hb) <| p_ (Kd.iY (aG af) (Kd.iW vN) hb) <| p_ (Kd.dK (Kd.vg (Kd.iZ (Kd.iZ vN (Kd.iD (aG fC))) (Kd.iD (aG af))) (g:=fQ) (o:=.cells #[.string jD,.bool ((au aH dD).f1),.string ((au aH dD).f2)] 43) (aj eU)) (dO ay)) <| p_ (bG (aj a7) hb) <| p_ (bG (aj a8) hb) <| p_ (bG (aj a6) hb) <| p_ (bG (aj eU) hb) <| p_ (Kd.qg FM hb) <| a_ (dI ay hb)
     clear hb vN
     refine hK.out _ _ ⟨(aO a6.out 0).trans rfl,qC eU.out⟩ (fun hH=>?_)
     clear hK K
     refine fD (some 68) ?_
     refine gB (i:=5) (N:=some 66) zO rfl rfl (jW aS.out aB) (by decide) (fun K hK=>?_)
     refine Kd.AZ bF (w0:=w) w.heap.size (by rfl) (.tmp 61) (.tmp 65) 26 43 (.agg #[(.string ⟨#[]⟩),(.bool false),(.string ⟨#[]⟩)]) 40 rfl underlying26 o8 rfl (by decide) (by omega) BP dr b7 _ _ _ (fun aF=>some aF≠(.slice ac a5.length ae:Value).ownBlock∧some aF≠(vS:Value).ownBlock∧aF≠fQ) (fun _=>False) rfl rfl ?ku ?aR (fun _ _ h=>h) (fun _ h=>h.elim) ?kS ?lu ?kC ?aL ?_
     (case aR=>exact PW)
     (case lu=>exact ay)
     (case kS=>exact KI)
     (case ku=>exact (by (with_reducible repeat (first|apply Kd.dR|apply Kd.dS|apply Kd.bK));exact Kd.bW af.out (fun _ hk=>⟨hk.1.1.2,⟨hk.2,hk.1.2⟩⟩)))
     (case kC=>exact (dO ay))
     (case aL=>have:=jg.out;omega)
     intro zA fe ho hb hg hat
     rw [← cv.out] at ho
     have eP:=p_ (Kd.nZ (ok:=(fun aF=>some aF≠(vS:Value).ownBlock∧aF≠fQ)) KR hg hat) <| p_ (iE (g:=aN) (o:=.cells #[.slice (some aT) aH.length al] 28) (aj a7) hg (Kd.iw af.out a7.out (by decide))) <| p_ (iE (g:=ai) (o:=.cells #[.slice none 0 0] 28) (aj a8) hg (Kd.iw af.out a8.out (by decide))) <| p_ (iE (g:=ab) (o:=.cells #[.slice ac a5.length ae] 28) (aj a6) hg (Kd.iw af.out a6.out (by decide))) <| p_ (iE (g:=fQ) (o:=.cells #[.string jD,.bool ((au aH dD).f1),.string ((au aH dD).f2)] 43) (aj eU) hg (Kd.qB af.out (fun _ hk=>hk.1.2))) <| p_ (Kd.nZ (ok:=(fun aF=>some aF≠(.slice ac a5.length ae:Value).ownBlock∧aF≠fQ)) (by (with_reducible repeat (first|apply Kd.dR|apply Kd.dS|apply Kd.bK));exact Kd.bW qy.out (fun _ hk=>⟨⟨hk.1.1.2,hk.2⟩,hk.1.2⟩)) hg hat) <| p_ (hb) <| p_ ((show Kd.C bF fe ac b7.length b7 from by rw [br.out];exact Kd.xC (m:=(a9:Int).toNat) ((Kd.bZ (Kd.nZ (ok:=(fun aF=>some aF≠(vS:Value).ownBlock∧aF≠fQ)) KR hg hat)).2.2) L6.out)) <| a_ (ho)
     clear fC a7 a8 a6 eU qy HB vV af
     obtain ⟨fC,a7,a8,a6,eU,qy,HB,vV,wK⟩:=eP
     clear ho hb hg hat
     refine hK.out _ _ ⟨(aO a6.out 0).trans rfl,qC eU.out⟩ (fun hH=>?_)
     clear hK K
     refine fD (some 66) ?_
     exact rW wF (uf (BP,zA,vS) _ ⟨hH,PN,Xl,KU,(aj a7),(aj a8),(aj a6),(aj eU),ay⟩)
   ·skip
    refine Kd.xH bF _ 43 ?hg (N:=68) ?hd (xs:=([(⟨jD,((au aH dD).f1),((au aH dD).f2)⟩:aC)]:List (aC))) (inner:=[.string jD,.bool ((au aH dD).f1),.string ((au aH dD).f2)]) (ok:=fun _=>True) (iT:=fun _=>True) ?hr ?hp (fun _ hk=>hk) trivial (Below.refl _ _) (Nat.le_refl _) (by simp) ?_;(case hd=>rfl);(case hg=>rfl);(case hr=>first|(go_simp;done)|(go_simp;rfl));(case hp=>exact FK)
    intro vS ij wY hb jc jd
    clear jc jd
    (first|rw [← bc.out] at wY|(simp only [Int.reduceToNat] at wY;rw [← bc.out] at wY))
    obtain ⟨fC,qy,a7,a8,a6,eU,vV,HB⟩:=p_ (Kd.iY (aG fC) (Kd.iW wY) hb) <| p_ (Kd.dK (Kd.vg (Kd.iZ wY (Kd.iD (aG fC))) (g:=fQ) (o:=.cells #[.string jD,.bool ((au aH dD).f1),.string ((au aH dD).f2)] 43) (aj eU)) (dO ay)) <| p_ (bG (aj a7) hb) <| p_ (bG (aj a8) hb) <| p_ (bG (aj a6) hb) <| p_ (bG (aj eU) hb) <| p_ (Kd.qg FM hb) <| a_ (dI ay hb)
    clear hb wY
    refine hK.out _ _ ⟨(aO a6.out 0).trans rfl,qC eU.out⟩ (fun hH=>?_)
    clear hK K
    refine fD (some 68) ?_
    refine gB (i:=0) (N:=some 61) Jr rfl rfl (jW aS.out aB) (by decide) (fun K hK=>?_)
    refine Kd.xH bF _ 43 ?hg (N:=61) ?hd (xs:=([]:List (aC))) (inner:=[]) (ok:=fun _=>True) (iT:=fun _=>True) ?hr ?hp (fun _ hk=>hk) trivial (Below.refl _ _) (Nat.le_refl _) (by simp) ?_;(case hd=>rfl);(case hg=>rfl);(case hr=>first|(go_simp;done)|(go_simp;rfl));(case hp=>exact (bM.none _ _))
    intro BP fd vN hb jc jd
    clear jc jd
    (first|rw [← bw.out] at vN|(simp only [Int.reduceToNat] at vN;rw [← bw.out] at vN))
    obtain ⟨fC,qy,af,a7,a8,a6,eU,vV,HB⟩:=p_ (Kd.iY (aG fC) (Kd.iW vN) hb) <| p_ (Kd.iY (aG qy) (Kd.iW vN) hb) <| p_ (Kd.dK (Kd.vg (Kd.iZ (Kd.iZ vN (Kd.iD (aG fC))) (Kd.iD (aG qy))) (g:=fQ) (o:=.cells #[.string jD,.bool ((au aH dD).f1),.string ((au aH dD).f2)] 43) (aj eU)) (dO ay)) <| p_ (bG (aj a7) hb) <| p_ (bG (aj a8) hb) <| p_ (bG (aj a6) hb) <| p_ (bG (aj eU) hb) <| p_ (Kd.qg FM hb) <| a_ (dI ay hb)
    clear hb vN
    refine hK.out _ _ ⟨(aO a6.out 0).trans rfl,qC eU.out⟩ (fun hH=>?_)
    clear hK K
    refine fD (some 61) ?_
    refine gB (i:=5) (N:=some 66) zO rfl rfl (jW aS.out aB) (by decide) (fun K hK=>?_)
    refine Kd.AZ bF (w0:=w) w.heap.size (by rfl) (.tmp 61) (.tmp 65) 26 43 (.agg #[(.string ⟨#[]⟩),(.bool false),(.string ⟨#[]⟩)]) 40 rfl underlying26 o8 rfl (by decide) (by omega) BP dr b7 _ _ _ (fun aF=>some aF≠(.slice ac a5.length ae:Value).ownBlock∧some aF≠(vS:Value).ownBlock∧aF≠fQ) (fun _=>False) rfl rfl ?ku ?aR (fun _ _ h=>h) (fun _ h=>h.elim) ?kS ?lu ?kC ?aL ?_
    (case aR=>exact PW)
    (case lu=>exact ay)
    (case kS=>exact KI)
    (case ku=>exact (by (with_reducible repeat (first|apply Kd.dR|apply Kd.dS|apply Kd.bK));exact Kd.bW af.out (fun _ hk=>⟨hk.1.1.2,⟨hk.1.2,hk.2⟩⟩)))
    (case kC=>exact (dO ay))
    (case aL=>have:=jg.out;omega)
    intro zA fe ho hb hg hat
    rw [← cv.out] at ho
    have eP:=p_ (Kd.nZ (ok:=(fun aF=>some aF≠(vS:Value).ownBlock∧aF≠fQ)) KT hg hat) <| p_ (iE (g:=aN) (o:=.cells #[.slice (some aT) aH.length al] 28) (aj a7) hg (Kd.iw af.out a7.out (by decide))) <| p_ (iE (g:=ai) (o:=.cells #[.slice none 0 0] 28) (aj a8) hg (Kd.iw af.out a8.out (by decide))) <| p_ (iE (g:=ab) (o:=.cells #[.slice ac a5.length ae] 28) (aj a6) hg (Kd.iw af.out a6.out (by decide))) <| p_ (iE (g:=fQ) (o:=.cells #[.string jD,.bool ((au aH dD).f1),.string ((au aH dD).f2)] 43) (aj eU) hg (Kd.qB af.out (fun _ hk=>hk.2))) <| p_ (Kd.nZ (ok:=(fun aF=>some aF≠(.slice ac a5.length ae:Value).ownBlock∧aF≠fQ)) (by (with_reducible repeat (first|apply Kd.dR|apply Kd.dS|apply Kd.bK));exact Kd.bW qy.out (fun _ hk=>⟨⟨hk.1.1.2,hk.1.2⟩,hk.2⟩)) hg hat) <| p_ (hb) <| p_ ((show Kd.C bF fe ac b7.length b7 from by rw [br.out];exact Kd.xC (m:=(a9:Int).toNat) ((Kd.bZ (Kd.nZ (ok:=(fun aF=>some aF≠(vS:Value).ownBlock∧aF≠fQ)) KT hg hat)).2.2) L6.out)) <| a_ (ho)
    clear fC a7 a8 a6 eU qy HB vV af
    obtain ⟨fC,a7,a8,a6,eU,qy,HB,vV,wK⟩:=eP
    clear ho hb hg hat
    refine hK.out _ _ ⟨(aO a6.out 0).trans rfl,qC eU.out⟩ (fun hH=>?_)
    clear hK K
    refine fD (some 66) ?_
    exact rW wF (uf (BP,zA,vS) _ ⟨hH,PN,Xl,KU,(aj a7),(aj a8),(aj a6),(aj eU),ay⟩)
  rintro ⟨BP,zA,vS⟩ cm ⟨vJ,zT,zU,zV,zW,zX,zY,zZ,z_⟩
  obtain ⟨wK,qy,fC,a7,a8,a6,eU,HB⟩:=fM (⟨zT⟩:aA (Kd.R bF 43 cm w.heap.size (fun aF=>some aF≠(vS:Value).ownBlock∧some aF≠(.slice ac a5.length ae:Value).ownBlock∧aF≠fQ) zA dt)) <| fM (⟨zU⟩:aA (Kd.R bF 43 cm w.heap.size (fun aF=>some aF≠(zA:Value).ownBlock∧some aF≠(.slice ac a5.length ae:Value).ownBlock∧aF≠fQ) vS bh)) <| fM (⟨zV⟩:aA (Kd.R bF 43 cm w.heap.size (fun aF=>some aF≠(zA:Value).ownBlock∧some aF≠(vS:Value).ownBlock∧aF≠fQ) (.slice ac a5.length ae) a5)) <| fM (⟨zW⟩:aA (cm.heap[aN]?=some (.cells #[.slice (some aT) aH.length al] 28))) <| fM (⟨zX⟩:aA (cm.heap[ai]?=some (.cells #[.slice none 0 0] 28))) <| fM (⟨zY⟩:aA (cm.heap[ab]?=some (.cells #[.slice ac a5.length ae] 28))) <| fM (⟨zZ⟩:aA (cm.heap[fQ]?=some (.cells #[.string jD,.bool ((au aH dD).f1),.string ((au aH dD).f2)] 43))) <| (⟨z_⟩:aA (Below w.heap.size w cm))
  have hH:lD cm ab (.slice ac a5.length ae) <| zH cm fQ (.string jD) (.bool ((au aH dD).f1)) (.string ((au aH dD).f2)):=vJ
  obtain ⟨ci,cj,eo⟩:=Kd.dJ qy.out
  (first|subst eo|(injection eo with dP fZ dQ;have f_:=dP.symm;have gq:=dQ.symm;clear dP fZ dQ;subst f_;subst gq))
  refine rW (a':=?_) ?_ ?_
  rotate_left
  ·simp only [Aj,Act.put,List.setIfInBounds_toArray,List.set_cons_zero,List.set_cons_succ]
   rfl
  refine gB (i:=8) (N:=some 69) MS rfl rfl (jW aS.out aB) (by decide) (fun K hK=>?_)
  refine Kd.AZ bF (w0:=w) w.heap.size (by rfl) (.tmp 66) (.tmp 68) 26 43 (.agg #[(.string ⟨#[]⟩),(.bool false),(.string ⟨#[]⟩)]) 40 rfl underlying26 o8 rfl (by decide) (by omega) zA dt bh _ _ _ (fun aF=>some aF≠(.slice ac a5.length ae:Value).ownBlock∧some aF≠(.slice ci bh.length cj:Value).ownBlock∧aF≠fQ) (fun _=>False) rfl rfl ?ku ?aR (fun _ _ h=>h) (fun _ h=>h.elim) ?kS ?lu ?kC ?aL ?_
  (case aR=>repeat (first|exact (Kd.bZ qy.out).2.2|(with_reducible refine Kd.jJ ?_ _)|(with_reducible refine Kd.jL ?_ _)|(with_reducible refine Kd.jK ?_)))
  (case lu=>exact ay)
  (case kS=>exact KI)
  (case ku=>exact PN)
  (case kC=>exact (dO ay))
  (case aL=>have:=ei.out;omega)
  intro ac3 ix ho hb hg hat
  rw [← ek.out] at ho
  have eP:=p_ (Kd.nZ (ok:=(fun aF=>some aF≠(.slice ci bh.length cj:Value).ownBlock∧aF≠fQ)) Xi hg hat) <| p_ (iE (g:=aN) (o:=.cells #[.slice (some aT) aH.length al] 28) (aj a7) hg (Kd.iw wK.out a7.out (by decide))) <| p_ (iE (g:=ai) (o:=.cells #[.slice none 0 0] 28) (aj a8) hg (Kd.iw wK.out a8.out (by decide))) <| p_ (iE (g:=ab) (o:=.cells #[.slice ac a5.length ae] 28) (aj a6) hg (Kd.iw wK.out a6.out (by decide))) <| p_ (iE (g:=fQ) (o:=.cells #[.string jD,.bool ((au aH dD).f1),.string ((au aH dD).f2)] 43) (aj eU) hg (Kd.qB wK.out (fun _ hk=>hk.2.2))) <| p_ (Kd.nZ (ok:=(fun aF=>some aF≠(.slice ac a5.length ae:Value).ownBlock∧aF≠fQ)) (by (with_reducible repeat (first|apply Kd.dR|apply Kd.dS|apply Kd.bK));exact Kd.bW qy.out (fun _ hk=>⟨⟨hk.2.1,hk.2.2⟩,hk.1⟩)) hg hat) <| p_ (hb) <| a_ (ho)
  clear fC a7 a8 a6 eU qy HB wK
  obtain ⟨fC,a7,a8,a6,eU,qy,HB,bd⟩:=eP
  clear ho hb hg hat
  refine hK.out _ _ ⟨(aO a6.out 0).trans rfl,qC eU.out⟩ (fun hH=>?_)
  clear hK K
  refine fD (some 69) ?_
  refine eY 9 11 MV aS ?_
  refine iF (jB aS.out aB) ?_
  obtain ⟨ax,dw⟩:=iJ ar aq
  have ak3:=cu a6.out
  have ff:(a9:Int)≤((a5.length:Int):Int):=bC bD
  obtain ⟨ah9,TW,_,Ue,_⟩:=info_parts o8
  have Om:a5.length≤ae:=(Kd.bZ fC.out).2.1
  have TM:Kd.C bF _ ac a5.length a5:=(Kd.bZ fC.out).2.2
  have fg:(0:Int)≤(a9:Int):=bC bD
  have ZO:=S9 (P:=Tryz.prog) 26 43 .i64 underlying26 TW 3 Ue ac a5.length ae a9 fg ff
  have Hu:=Kd.IW (m:=(a9:Int).toNat) (c:=ae) TM (by omega) Om
  obtain ⟨h9,JD⟩:∃ A1,A1=(if ae=(a9:Int).toNat then ac else (ac:Option Addr).map (·.add ((a9:Int).toNat * 3))):=⟨_,rfl⟩
  obtain ⟨ik,hc99⟩:∃ c1,c1=ae - (a9:Int).toNat:=⟨_,rfl⟩
  have d8:bi.length=a5.length - (a9:Int).toNat:=(by rw [cw.out,List.length_drop] <;> omega)
  rw [show (a5).drop (a9:Int).toNat=bi from cw.out.symm] at Hu
  replace Hu:Kd.C bF _ h9 bi.length bi:=(by rw [JD];exact Hu)
  rw [← d8,← JD,← hc99] at ZO
  have bx:=m_ Hu
  have hs:=m_ (show bi.length≤ik from by rw [d8,hc99];exact Nat.sub_le_sub_right Om _)
  clear Hu TM Om TW Ue hc99
  have ad1:=m_ d8
  have X6:=m_ JD
  clear d8 JD
  have X9:=m_ (show (a9:Int).toNat≤a5.length from by omega)
  replace ff:=eq_true ff
  try go_wp2_with (first|((with_reducible refine wW (b:=.append) (xs:=#[.tmp 70,.tmp 74]) rfl ?_);at_builtin;refine Kd.Eu bF (w0:=w) w.heap.size rfl (.tmp 70) (.tmp 74) 26 43 (.agg #[(.string ⟨#[]⟩),(.bool false),(.string ⟨#[]⟩)]) 40 rfl underlying26 o8 rfl (by decide) (by omega) ac3 ej bi _ _ _ (fun aF=>some aF≠(.slice ac a5.length ae:Value).ownBlock∧some aF≠(.slice ci bh.length cj:Value).ownBlock∧aF≠fQ) (fun _=>False) rfl rfl ?ku ?aR (fun _ _ h=>h) (fun _ h=>h.elim) ?kS ?lu ?kC ?aL ?_;(case aR=>repeat (first|exact (by repeat (first|(with_reducible exact bx.out)|(with_reducible refine Kd.jJ ?_ _)|(with_reducible refine Kd.jL ?_ _)|(with_reducible refine Kd.jK ?_)|exact bx.out))|(with_reducible refine Kd.jJ ?_ _)|(with_reducible refine Kd.jL ?_ _)|(with_reducible refine Kd.jK ?_)));(case lu=>exact ay);(case kS=>exact KI);(case ku=>exact (aG bd));(case kC=>exact (dO ay));(case aL=>have:=el.out;omega);intro aiQ fh ho hb hg hat;rw [← em.out] at ho;have eP:=p_ (Kd.nZ (ok:=(fun aF=>some aF≠(.slice ci bh.length cj:Value).ownBlock∧aF≠fQ)) (aG fC) hg hat) <| p_ (iE (g:=aN) (o:=.cells #[.slice (some aT) aH.length al] 28) (aj a7) hg (Kd.iw bd.out a7.out (by decide))) <| p_ (iE (g:=ai) (o:=.cells #[.slice none 0 0] 28) (aj a8) hg (Kd.iw bd.out a8.out (by decide))) <| p_ (iE (g:=ab) (o:=.cells #[.slice ac a5.length ae] 28) (aj a6) hg (Kd.iw bd.out a6.out (by decide))) <| p_ (iE (g:=fQ) (o:=.cells #[.string jD,.bool ((au aH dD).f1),.string ((au aH dD).f2)] 43) (aj eU) hg (Kd.qB bd.out (fun _ hk=>hk.2.2))) <| p_ (Kd.nZ (ok:=(fun aF=>some aF≠(.slice ac a5.length ae:Value).ownBlock∧aF≠fQ)) (aG qy) hg hat) <| p_ (hb) <| p_ ((show Kd.C bF fh h9 bi.length bi from by rw [cw.out,X6.out];exact Kd.IW (m:=(a9:Int).toNat) (c:=ae) ((Kd.bZ (Kd.nZ (ok:=(fun aF=>some aF≠(.slice ci bh.length cj:Value).ownBlock∧aF≠fQ)) (aG fC) hg hat)).2.2) X9.out ((Kd.bZ (Kd.nZ (ok:=(fun aF=>some aF≠(.slice ci bh.length cj:Value).ownBlock∧aF≠fQ)) (aG fC) hg hat)).2.1))) <| a_ (ho);clear fC a7 a8 a6 eU qy HB bx bd;obtain ⟨fC,a7,a8,a6,eU,qy,HB,bx,dm⟩:=eP;clear ho hb hg hat;obtain ⟨ep,eq,er⟩:=Kd.dJ dm.out;subst er;have ajW:=cu a6.out))
  go_roundg k4
  case measure=>have:=iq.out;have:=Em.out;have:=I7.out;have:=I8.out;omega
  case rel=>exact ⟨(wrap64 (dD+1)),(du),(.slice ep du.length eq),bg,H',⟨P7⟩,⟨(by (with_reducible repeat (first|apply Kd.dR|apply Kd.dS|apply Kd.bK));exact Kd.bW (aU (Kd.dL dm.out a6.out (by decide))) (fun _ hk=>trivial))⟩,⟨bH⟩,⟨bH⟩,⟨bH⟩,⟨ay⟩⟩
 obtain ⟨hy,H⟩:=fU H
 have es:=m_ H
 clear H
 try go_wp2
 obtain ⟨fC,a7,a8,a6,eU,HB⟩:=p_ (Kd.bK fC.out) <| uG a7 a8 a6 eU HB
 obtain ⟨il,ag,et⟩:=Kd.dJ fC.out
 (first|subst et|(injection et with dP fZ dQ;have f_:=dP.symm;have gq:=dQ.symm;clear dP fZ dQ;subst f_;subst gq))
 have lZ:0≤(a9:Int):=bC bD
 have dx:a9 < (a5.length:Int):=bC bD
 obtain ⟨aa,fi,bj,bl,bm⟩:=jP (Kd.bZ fC.out).2.2 a9 lZ dx
 cases fi
 replace lZ:=eq_true lZ
 replace dx:=eq_true dx
 refine iH (n:=16) (S:=fun w'=>lD w' ab (.slice (some aa) a5.length ag) <| zG w' fQ (.string jD) (.bool ((au aH dD).f1)) (.string ((au aH dD).f2)) <| uw w' (aa.add ((a9).toNat * 3)) (.string ((au a5 a9).f0)) (.bool ((au a5 a9).f1)) (.string ((au a5 a9).f2))) (ds:=[]) Gs aB rfl rfl ⟨(aO a6.out 0).trans rfl,vC eU.out ⟨bj,bl,bm⟩⟩ (fun hH=>?_);refine jC iV.xw iV.wM (fun aS gJ=>?_)
 generalize wr.drew=im at fC a7 a8 a6 eU HB bj bl bm hH ⊢
 refine eY 0 43 RH aS ?_
 refine eY 1 44 RI aS ?_
 refine pJ 2 45 RJ aS gJ hH ?_
 refine eY 3 46 Rt aS ?_
 refine eY 4 47 Ru aS ?_
 refine eY 5 48 Rw aS ?_
 refine eY 6 49 Na aS ?_
 refine eY 8 51 #[ak,ak,ak,ak,ak,ak,ak,F_,ak,F_,F_,F_,F_,F_,F_,F_] aS ?_
 refine eY 12 55 #[ak,ak,ak,ak,ak,ak,ak,F_,ak,F_,F_,F_,ak,F_,F_,F_] aS ?_
 refine pJ 7 50 #[ak,ak,ak,ak,ak,ak,ak,ak,ak,F_,F_,F_,ak,F_,F_,F_] aS gJ hH ?_
 refine eY 9 52 #[ak,ak,ak,ak,ak,ak,ak,ak,ak,ak,F_,F_,ak,F_,F_,F_] aS ?_
 refine eY 10 53 #[ak,ak,ak,ak,ak,ak,ak,ak,ak,ak,ak,F_,ak,F_,F_,F_] aS ?_
 refine pJ 11 54 Nb aS gJ hH ?_
 refine pJ 13 56 EG aS gJ hH ?_
 refine eY 14 57 Nc aS ?_
 refine eY 15 58 Nh aS ?_
 refine iF (jB aS.out aB) ?_
 go_upto_if 58 with (fail)
 (try clear az an cq b0 ct am bq cp cr bp)
 (try clear bj bl bm)
 obtain ⟨H⟩:=es
 revert H;refine fJ (fun e7 H=>?_) fun e7 H=>?_
 rotate_left
 ·have b1:(Op.bytesLess jD.toList (((au a5 a9).f0).toList))=false:=by simpa using e7
  clear e7
  (first|rw [b1]|(simp only [bI,bY];rw [b1])|rw [uz,b1]|rw [wo,b1]|skip)
  have H':=m_ H
  clear H
  go_wp2
  go_roundg k4
  case measure=>have:=iq.out;have:=Em.out;have:=I7.out;have:=I8.out;omega
  case rel=>exact ⟨(wrap64 (a9+1)),bg,H',⟨P7⟩,⟨(aG fC)⟩,⟨(aj a7)⟩,⟨(aj a8)⟩,⟨(aj a6)⟩,⟨(aj eU)⟩,⟨ay⟩⟩
 have b1:(Op.bytesLess jD.toList (((au a5 a9).f0).toList))=true:=e7
 clear e7
 (first|rw [b1]|(simp only [bI,bY];rw [b1])|rw [uz,b1]|rw [wo,b1]|skip)
 obtain ⟨dy,bz,H⟩:=uU H
 have i1:=eq_true (bC bD:0≤a9)
 obtain ⟨i2,i3,H⟩:=kT H
 obtain ⟨b8,bs,H⟩:=uU H
 obtain ⟨i4,H⟩:=lG H
 have cy:=m_ i4
 clear i4
 obtain ⟨dz,cz,H⟩:=uU H
 obtain ⟨fK,be,H⟩:=uU H
 obtain ⟨i5,H⟩:=lG H
 have rV:=m_ i5
 clear i5
 obtain ⟨ev,ew,H⟩:=uU H
 have i6:=eq_true (bC bD:0≤a9)
 have i7:=eq_true (bC bD:a9≤(a5.length:Int))
 obtain ⟨bo,d0,H⟩:=uU H
 obtain ⟨i8,H⟩:=lG H
 have ex:=m_ i8
 clear i8
 obtain ⟨e0,d1⟩:∃ y_:List (aC),y_=(ev++bo):=⟨_,rfl⟩
 rw [← d1] at H
 have ey:=m_ d1
 clear d1
 have H':=m_ H
 clear H
 try go_wp2
 obtain ⟨fC,a7,a8,a6,eU,HB⟩:=p_ (Kd.bK fC.out) <| uG a7 a8 a6 eU HB
 have fk:(a9:Int)≤((a5.length:Int):Int):=bC bD
 obtain ⟨ah6,TT,_,aau,_⟩:=info_parts o8
 have Ub:a5.length≤ag:=(Kd.bZ fC.out).2.1
 have TJ:Kd.C bF _ (some aa) a5.length a5:=(Kd.bZ fC.out).2.2
 have ZL:=EM (P:=Tryz.prog) 26 43 .i64 underlying26 TT (some aa) a5.length ag a9 (bC bD) fk Ub
 have Oi:=Kd.xC (m:=(a9:Int).toNat) TJ (by omega)
 have e3:b8.length=(a9:Int).toNat:=(by rw [bs.out,List.length_take];omega)
 rw [← bs.out] at Oi
 rw [← e3] at ZL
 have vU:=m_ Oi
 have i9:=m_ (show b8.length≤ag from by omega)
 clear Oi TJ Ub TT aau
 have adX:=m_ e3
 clear e3
 have LZ:=m_ (show (a9:Int).toNat≤a5.length from by omega)
 replace fk:=eq_true fk
 refine iH (n:=10) (S:=fun w'=>lD w' ab (.slice (some aa) a5.length ag) <| zH w' fQ (.string jD) (.bool ((au aH dD).f1)) (.string ((au aH dD).f2))) (ds:=[]) MO aB rfl rfl ⟨(aO a6.out 0).trans rfl,qC eU.out⟩ (fun hH=>?_);refine jC iV.WA iV.Rf (fun aS gJ=>?_)
 generalize im.drew=Bg at fC a7 a8 a6 eU HB vU hH ⊢
 refine eY 1 62 MP aS ?_
 refine eY 3 64 MQ aS ?_
 refine pJ 2 63 RN aS gJ hH ?_
 refine eY 4 65 RP aS ?_
 refine pJ 6 67 RQ aS gJ hH ?_
 refine H_ (σ:=Value × Value × Value) 2 zO (fun s_=>[(61,s_.1),(66,s_.2.1),(68,s_.2.2)]) (fun s_ w'=>(lD w' ab (.slice (some aa) a5.length ag) <| zH w' fQ (.string jD) (.bool ((au aH dD).f1)) (.string ((au aH dD).f2)))∧(Kd.R bF 43 w' w.heap.size (fun aF=>some aF≠(s_.2.2:Value).ownBlock∧some aF≠(.slice (some aa) a5.length ag:Value).ownBlock∧aF≠fQ) s_.2.1 dz)∧(Kd.R bF 43 w' w.heap.size (fun aF=>some aF≠(s_.2.1:Value).ownBlock∧some aF≠(.slice (some aa) a5.length ag:Value).ownBlock∧aF≠fQ) s_.2.2 fK)∧(Kd.R bF 43 w' w.heap.size (fun aF=>some aF≠(s_.2.1:Value).ownBlock∧some aF≠(s_.2.2:Value).ownBlock∧aF≠fQ) (.slice (some aa) a5.length ag) a5)∧(w'.heap[aN]?=some (.cells #[.slice (some aT) aH.length al] 28))∧(w'.heap[ai]?=some (.cells #[.slice none 0 0] 28))∧(w'.heap[ab]?=some (.cells #[.slice (some aa) a5.length ag] 28))∧(w'.heap[fQ]?=some (.cells #[.string jD,.bool ((au aH dD).f1),.string ((au aH dD).f2)] 43))∧(Below w.heap.size w w')) ?_ ?_
 rotate_left
 ·intro uf
  refine AO (i:=0) (j:=7) (Ni:=some 61) (yt:=some 68) RS RU rfl rfl rfl rfl (AP aS.out aB) (by decide) (by decide) (fun K hK=>?_) (fun K hK=>?_)
  ·skip
   refine Kd.xH bF _ 43 ?hg (N:=61) ?hd (xs:=([]:List (aC))) (inner:=[]) (ok:=fun _=>True) (iT:=fun _=>True) ?hr ?hp (fun _ hk=>hk) trivial (Below.refl _ _) (Nat.le_refl _) (by simp) ?_;(case hd=>rfl);(case hg=>rfl);(case hr=>first|(go_simp;done)|(go_simp;rfl));(case hp=>exact (bM.none _ _))
   intro BO io wX hb jc jd
   clear jc jd
   (first|rw [← bz.out] at wX|(simp only [Int.reduceToNat] at wX;rw [← bz.out] at wX))
   obtain ⟨fC,aP,a7,a8,a6,eU,vU,HB⟩:=p_ (Kd.iY (aG fC) (Kd.iW wX) hb) <| p_ (Kd.dK (Kd.vg (Kd.iZ wX (Kd.iD (aG fC))) (g:=fQ) (o:=.cells #[.string jD,.bool ((au aH dD).f1),.string ((au aH dD).f2)] 43) (aj eU)) (dO ay)) <| p_ (bG (aj a7) hb) <| p_ (bG (aj a8) hb) <| p_ (bG (aj a6) hb) <| p_ (bG (aj eU) hb) <| p_ (Kd.qg FN hb) <| a_ (dI ay hb)
   clear hb wX
   refine hK.out _ _ ⟨(aO a6.out 0).trans rfl,qC eU.out⟩ (fun hH=>?_)
   clear hK K
   refine fD (some 61) ?_
   refine AO (i:=5) (j:=7) (Ni:=some 66) (yt:=some 68) MR Jr rfl rfl rfl rfl (AP aS.out aB) (by decide) (by decide) (fun K hK=>?_) (fun K hK=>?_)
   ·skip
    refine Kd.AZ bF (w0:=w) w.heap.size (by rfl) (.tmp 61) (.tmp 65) 26 43 (.agg #[(.string ⟨#[]⟩),(.bool false),(.string ⟨#[]⟩)]) 40 rfl underlying26 o8 rfl (by decide) (by omega) BO dy b8 _ _ _ (fun aF=>some aF≠(.slice (some aa) a5.length ag:Value).ownBlock∧aF≠fQ) (fun _=>False) rfl rfl ?ku ?aR (fun _ _ h=>h) (fun _ h=>h.elim) ?kS ?lu ?kC ?aL ?_
    (case aR=>exact PV)
    (case lu=>exact ay)
    (case kS=>exact WW)
    (case ku=>exact (by (with_reducible repeat (first|apply Kd.dR|apply Kd.dS|apply Kd.bK));exact Kd.bW aP.out (fun _ hk=>⟨hk.1.2,hk.2⟩)))
    (case kC=>exact (dO ay))
    (case aL=>have:=cy.out;omega)
    intro zy fl ho hb hg hat
    rw [← cz.out] at ho
    have eP:=p_ (Kd.nZ (ok:=(fun aF=>aF≠fQ)) (aG fC) hg hat) <| p_ (iE (g:=aN) (o:=.cells #[.slice (some aT) aH.length al] 28) (aj a7) hg (Kd.iw aP.out a7.out (by decide))) <| p_ (iE (g:=ai) (o:=.cells #[.slice none 0 0] 28) (aj a8) hg (Kd.iw aP.out a8.out (by decide))) <| p_ (iE (g:=ab) (o:=.cells #[.slice (some aa) a5.length ag] 28) (aj a6) hg (Kd.iw aP.out a6.out (by decide))) <| p_ (iE (g:=fQ) (o:=.cells #[.string jD,.bool ((au aH dD).f1),.string ((au aH dD).f2)] 43) (aj eU) hg (Kd.qB aP.out (fun _ hk=>hk.2))) <| p_ (hb) <| p_ ((show Kd.C bF fl (some aa) b8.length b8 from by rw [bs.out];exact Kd.xC (m:=(a9:Int).toNat) ((Kd.bZ (Kd.nZ (ok:=(fun aF=>aF≠fQ)) (aG fC) hg hat)).2.2) LZ.out)) <| a_ (ho)
    clear fC a7 a8 a6 eU HB vU aP
    obtain ⟨fC,a7,a8,a6,eU,HB,vU,wJ⟩:=eP
    clear ho hb hg hat
    refine hK.out _ _ ⟨(aO a6.out 0).trans rfl,qC eU.out⟩ (fun hH=>?_)
    clear hK K
    refine fD (some 66) ?_
    refine gB (i:=7) (N:=some 68) zO rfl rfl (jW aS.out aB) (by decide) (fun K hK=>?_)
    refine Kd.xH bF _ 43 ?hg (N:=68) ?hd (xs:=([(⟨jD,((au aH dD).f1),((au aH dD).f2)⟩:aC)]:List (aC))) (inner:=[.string jD,.bool ((au aH dD).f1),.string ((au aH dD).f2)]) (ok:=fun _=>True) (iT:=fun _=>True) ?hr ?hp (fun _ hk=>hk) trivial (Below.refl _ _) (Nat.le_refl _) (by simp) ?_;(case hd=>rfl);(case hg=>rfl);(case hr=>first|(go_simp;done)|(go_simp;rfl));(case hp=>exact FK)
    intro vP iz Dj hb jc jd
    clear jc jd
    (first|rw [← be.out] at Dj|(simp only [Int.reduceToNat] at Dj;rw [← be.out] at Dj))
    obtain ⟨fC,wJ,qx,a7,a8,a6,eU,vU,HB⟩:=p_ (Kd.iY (aG fC) (Kd.iW Dj) hb) <| p_ (Kd.iY (aG wJ) (Kd.iW Dj) hb) <| p_ (Kd.dK (Kd.vg (Kd.iZ (Kd.iZ Dj (Kd.iD (aG fC))) (Kd.iD (aG wJ))) (g:=fQ) (o:=.cells #[.string jD,.bool ((au aH dD).f1),.string ((au aH dD).f2)] 43) (aj eU)) (dO ay)) <| p_ (bG (aj a7) hb) <| p_ (bG (aj a8) hb) <| p_ (bG (aj a6) hb) <| p_ (bG (aj eU) hb) <| p_ (Kd.qg FN hb) <| a_ (dI ay hb)
    clear hb Dj
    refine hK.out _ _ ⟨(aO a6.out 0).trans rfl,qC eU.out⟩ (fun hH=>?_)
    clear hK K
    refine fD (some 68) ?_
    exact rW wF (uf (BO,zy,vP) _ ⟨hH,(by (with_reducible repeat (first|apply Kd.dR|apply Kd.dS|apply Kd.bK));exact Kd.bW wJ.out (fun _ hk=>⟨hk.2,⟨hk.1.1,hk.1.2⟩⟩)),(by (with_reducible repeat (first|apply Kd.dR|apply Kd.dS|apply Kd.bK));exact Kd.bW qx.out (fun _ hk=>⟨hk.1.2,⟨hk.1.1.2,hk.2⟩⟩)),Xj,(aj a7),(aj a8),(aj a6),(aj eU),ay⟩)
   ·skip
    refine Kd.xH bF _ 43 ?hg (N:=68) ?hd (xs:=([(⟨jD,((au aH dD).f1),((au aH dD).f2)⟩:aC)]:List (aC))) (inner:=[.string jD,.bool ((au aH dD).f1),.string ((au aH dD).f2)]) (ok:=fun _=>True) (iT:=fun _=>True) ?hr ?hp (fun _ hk=>hk) trivial (Below.refl _ _) (Nat.le_refl _) (by simp) ?_;(case hd=>rfl);(case hg=>rfl);(case hr=>first|(go_simp;done)|(go_simp;rfl));(case hp=>exact FK)
    intro vP fl oK hb jc jd
    clear jc jd
    (first|rw [← be.out] at oK|(simp only [Int.reduceToNat] at oK;rw [← be.out] at oK))
    obtain ⟨fC,aP,qx,a7,a8,a6,eU,vU,HB⟩:=p_ (Kd.iY (aG fC) (Kd.iW oK) hb) <| p_ (Kd.iY (aG aP) (Kd.iW oK) hb) <| p_ (Kd.dK (Kd.vg (Kd.iZ (Kd.iZ oK (Kd.iD (aG fC))) (Kd.iD (aG aP))) (g:=fQ) (o:=.cells #[.string jD,.bool ((au aH dD).f1),.string ((au aH dD).f2)] 43) (aj eU)) (dO ay)) <| p_ (bG (aj a7) hb) <| p_ (bG (aj a8) hb) <| p_ (bG (aj a6) hb) <| p_ (bG (aj eU) hb) <| p_ (Kd.qg FN hb) <| a_ (dI ay hb)
    clear hb oK
    refine hK.out _ _ ⟨(aO a6.out 0).trans rfl,qC eU.out⟩ (fun hH=>?_)
    clear hK K
    refine fD (some 68) ?_
    refine gB (i:=5) (N:=some 66) zO rfl rfl (jW aS.out aB) (by decide) (fun K hK=>?_)
    refine Kd.AZ bF (w0:=w) w.heap.size (by rfl) (.tmp 61) (.tmp 65) 26 43 (.agg #[(.string ⟨#[]⟩),(.bool false),(.string ⟨#[]⟩)]) 40 rfl underlying26 o8 rfl (by decide) (by omega) BO dy b8 _ _ _ (fun aF=>some aF≠(.slice (some aa) a5.length ag:Value).ownBlock∧some aF≠(vP:Value).ownBlock∧aF≠fQ) (fun _=>False) rfl rfl ?ku ?aR (fun _ _ h=>h) (fun _ h=>h.elim) ?kS ?lu ?kC ?aL ?_
    (case aR=>exact PV)
    (case lu=>exact ay)
    (case kS=>exact KJ)
    (case ku=>exact (by (with_reducible repeat (first|apply Kd.dR|apply Kd.dS|apply Kd.bK));exact Kd.bW aP.out (fun _ hk=>⟨hk.1.1.2,⟨hk.2,hk.1.2⟩⟩)))
    (case kC=>exact (dO ay))
    (case aL=>have:=cy.out;omega)
    intro zy fm ho hb hg hat
    rw [← cz.out] at ho
    have eP:=p_ (Kd.nZ (ok:=(fun aF=>some aF≠(vP:Value).ownBlock∧aF≠fQ)) KR hg hat) <| p_ (iE (g:=aN) (o:=.cells #[.slice (some aT) aH.length al] 28) (aj a7) hg (Kd.iw aP.out a7.out (by decide))) <| p_ (iE (g:=ai) (o:=.cells #[.slice none 0 0] 28) (aj a8) hg (Kd.iw aP.out a8.out (by decide))) <| p_ (iE (g:=ab) (o:=.cells #[.slice (some aa) a5.length ag] 28) (aj a6) hg (Kd.iw aP.out a6.out (by decide))) <| p_ (iE (g:=fQ) (o:=.cells #[.string jD,.bool ((au aH dD).f1),.string ((au aH dD).f2)] 43) (aj eU) hg (Kd.qB aP.out (fun _ hk=>hk.1.2))) <| p_ (Kd.nZ (ok:=(fun aF=>some aF≠(.slice (some aa) a5.length ag:Value).ownBlock∧aF≠fQ)) (by (with_reducible repeat (first|apply Kd.dR|apply Kd.dS|apply Kd.bK));exact Kd.bW qx.out (fun _ hk=>⟨⟨hk.1.1.2,hk.2⟩,hk.1.2⟩)) hg hat) <| p_ (hb) <| p_ ((show Kd.C bF fm (some aa) b8.length b8 from by rw [bs.out];exact Kd.xC (m:=(a9:Int).toNat) ((Kd.bZ (Kd.nZ (ok:=(fun aF=>some aF≠(vP:Value).ownBlock∧aF≠fQ)) KR hg hat)).2.2) LZ.out)) <| a_ (ho)
    clear fC a7 a8 a6 eU qx HB vU aP
    obtain ⟨fC,a7,a8,a6,eU,qx,HB,vU,wJ⟩:=eP
    clear ho hb hg hat
    refine hK.out _ _ ⟨(aO a6.out 0).trans rfl,qC eU.out⟩ (fun hH=>?_)
    clear hK K
    refine fD (some 66) ?_
    exact rW wF (uf (BO,zy,vP) _ ⟨hH,PO,Xm,KU,(aj a7),(aj a8),(aj a6),(aj eU),ay⟩)
  ·skip
   refine Kd.xH bF _ 43 ?hg (N:=68) ?hd (xs:=([(⟨jD,((au aH dD).f1),((au aH dD).f2)⟩:aC)]:List (aC))) (inner:=[.string jD,.bool ((au aH dD).f1),.string ((au aH dD).f2)]) (ok:=fun _=>True) (iT:=fun _=>True) ?hr ?hp (fun _ hk=>hk) trivial (Below.refl _ _) (Nat.le_refl _) (by simp) ?_;(case hd=>rfl);(case hg=>rfl);(case hr=>first|(go_simp;done)|(go_simp;rfl));(case hp=>exact FK)
   intro vP io wX hb jc jd
   clear jc jd
   (first|rw [← be.out] at wX|(simp only [Int.reduceToNat] at wX;rw [← be.out] at wX))
   obtain ⟨fC,qx,a7,a8,a6,eU,vU,HB⟩:=p_ (Kd.iY (aG fC) (Kd.iW wX) hb) <| p_ (Kd.dK (Kd.vg (Kd.iZ wX (Kd.iD (aG fC))) (g:=fQ) (o:=.cells #[.string jD,.bool ((au aH dD).f1),.string ((au aH dD).f2)] 43) (aj eU)) (dO ay)) <| p_ (bG (aj a7) hb) <| p_ (bG (aj a8) hb) <| p_ (bG (aj a6) hb) <| p_ (bG (aj eU) hb) <| p_ (Kd.qg FN hb) <| a_ (dI ay hb)
   clear hb wX
   refine hK.out _ _ ⟨(aO a6.out 0).trans rfl,qC eU.out⟩ (fun hH=>?_)
   clear hK K
   refine fD (some 68) ?_
   refine gB (i:=0) (N:=some 61) Jr rfl rfl (jW aS.out aB) (by decide) (fun K hK=>?_)
   refine Kd.xH bF _ 43 ?hg (N:=61) ?hd (xs:=([]:List (aC))) (inner:=[]) (ok:=fun _=>True) (iT:=fun _=>True) ?hr ?hp (fun _ hk=>hk) trivial (Below.refl _ _) (Nat.le_refl _) (by simp) ?_;(case hd=>rfl);(case hg=>rfl);(case hr=>first|(go_simp;done)|(go_simp;rfl));(case hp=>exact (bM.none _ _))
   intro BO fl oK hb jc jd
   clear jc jd
   (first|rw [← bz.out] at oK|(simp only [Int.reduceToNat] at oK;rw [← bz.out] at oK))
   obtain ⟨fC,qx,aP,a7,a8,a6,eU,vU,HB⟩:=p_ (Kd.iY (aG fC) (Kd.iW oK) hb) <| p_ (Kd.iY (aG qx) (Kd.iW oK) hb) <| p_ (Kd.dK (Kd.vg (Kd.iZ (Kd.iZ oK (Kd.iD (aG fC))) (Kd.iD (aG qx))) (g:=fQ) (o:=.cells #[.string jD,.bool ((au aH dD).f1),.string ((au aH dD).f2)] 43) (aj eU)) (dO ay)) <| p_ (bG (aj a7) hb) <| p_ (bG (aj a8) hb) <| p_ (bG (aj a6) hb) <| p_ (bG (aj eU) hb) <| p_ (Kd.qg FN hb) <| a_ (dI ay hb)
   clear hb oK
   refine hK.out _ _ ⟨(aO a6.out 0).trans rfl,qC eU.out⟩ (fun hH=>?_)
   clear hK K
   refine fD (some 61) ?_
   refine gB (i:=5) (N:=some 66) zO rfl rfl (jW aS.out aB) (by decide) (fun K hK=>?_)
   refine Kd.AZ bF (w0:=w) w.heap.size (by rfl) (.tmp 61) (.tmp 65) 26 43 (.agg #[(.string ⟨#[]⟩),(.bool false),(.string ⟨#[]⟩)]) 40 rfl underlying26 o8 rfl (by decide) (by omega) BO dy b8 _ _ _ (fun aF=>some aF≠(.slice (some aa) a5.length ag:Value).ownBlock∧some aF≠(vP:Value).ownBlock∧aF≠fQ) (fun _=>False) rfl rfl ?ku ?aR (fun _ _ h=>h) (fun _ h=>h.elim) ?kS ?lu ?kC ?aL ?_
   (case aR=>exact PV)
   (case lu=>exact ay)
   (case kS=>exact KJ)
   (case ku=>exact (by (with_reducible repeat (first|apply Kd.dR|apply Kd.dS|apply Kd.bK));exact Kd.bW aP.out (fun _ hk=>⟨hk.1.1.2,⟨hk.1.2,hk.2⟩⟩)))
   (case kC=>exact (dO ay))
   (case aL=>have:=cy.out;omega)
   intro zy fm ho hb hg hat
   rw [← cz.out] at ho
   have eP:=p_ (Kd.nZ (ok:=(fun aF=>some aF≠(vP:Value).ownBlock∧aF≠fQ)) KT hg hat) <| p_ (iE (g:=aN) (o:=.cells #[.slice (some aT) aH.length al] 28) (aj a7) hg (Kd.iw aP.out a7.out (by decide))) <| p_ (iE (g:=ai) (o:=.cells #[.slice none 0 0] 28) (aj a8) hg (Kd.iw aP.out a8.out (by decide))) <| p_ (iE (g:=ab) (o:=.cells #[.slice (some aa) a5.length ag] 28) (aj a6) hg (Kd.iw aP.out a6.out (by decide))) <| p_ (iE (g:=fQ) (o:=.cells #[.string jD,.bool ((au aH dD).f1),.string ((au aH dD).f2)] 43) (aj eU) hg (Kd.qB aP.out (fun _ hk=>hk.2))) <| p_ (Kd.nZ (ok:=(fun aF=>some aF≠(.slice (some aa) a5.length ag:Value).ownBlock∧aF≠fQ)) (by (with_reducible repeat (first|apply Kd.dR|apply Kd.dS|apply Kd.bK));exact Kd.bW qx.out (fun _ hk=>⟨⟨hk.1.1.2,hk.1.2⟩,hk.2⟩)) hg hat) <| p_ (hb) <| p_ ((show Kd.C bF fm (some aa) b8.length b8 from by rw [bs.out];exact Kd.xC (m:=(a9:Int).toNat) ((Kd.bZ (Kd.nZ (ok:=(fun aF=>some aF≠(vP:Value).ownBlock∧aF≠fQ)) KT hg hat)).2.2) LZ.out)) <| a_ (ho)
   clear fC a7 a8 a6 eU qx HB vU aP
   obtain ⟨fC,a7,a8,a6,eU,qx,HB,vU,wJ⟩:=eP
   clear ho hb hg hat
   refine hK.out _ _ ⟨(aO a6.out 0).trans rfl,qC eU.out⟩ (fun hH=>?_)
   clear hK K
   refine fD (some 66) ?_
   exact rW wF (uf (BO,zy,vP) _ ⟨hH,PO,Xm,KU,(aj a7),(aj a8),(aj a6),(aj eU),ay⟩)
 rintro ⟨BO,zy,vP⟩ cn ⟨vJ,zT,zU,zV,zW,zX,zY,zZ,z_⟩
 obtain ⟨wJ,qx,fC,a7,a8,a6,eU,HB⟩:=fM (⟨zT⟩:aA (Kd.R bF 43 cn w.heap.size (fun aF=>some aF≠(vP:Value).ownBlock∧some aF≠(.slice (some aa) a5.length ag:Value).ownBlock∧aF≠fQ) zy dz)) <| fM (⟨zU⟩:aA (Kd.R bF 43 cn w.heap.size (fun aF=>some aF≠(zy:Value).ownBlock∧some aF≠(.slice (some aa) a5.length ag:Value).ownBlock∧aF≠fQ) vP fK)) <| fM (⟨zV⟩:aA (Kd.R bF 43 cn w.heap.size (fun aF=>some aF≠(zy:Value).ownBlock∧some aF≠(vP:Value).ownBlock∧aF≠fQ) (.slice (some aa) a5.length ag) a5)) <| fM (⟨zW⟩:aA (cn.heap[aN]?=some (.cells #[.slice (some aT) aH.length al] 28))) <| fM (⟨zX⟩:aA (cn.heap[ai]?=some (.cells #[.slice none 0 0] 28))) <| fM (⟨zY⟩:aA (cn.heap[ab]?=some (.cells #[.slice (some aa) a5.length ag] 28))) <| fM (⟨zZ⟩:aA (cn.heap[fQ]?=some (.cells #[.string jD,.bool ((au aH dD).f1),.string ((au aH dD).f2)] 43))) <| (⟨z_⟩:aA (Below w.heap.size w cn))
 have hH:lD cn ab (.slice (some aa) a5.length ag) <| zH cn fQ (.string jD) (.bool ((au aH dD).f1)) (.string ((au aH dD).f2)):=vJ
 obtain ⟨ck,cl,ez⟩:=Kd.dJ qx.out
 (first|subst ez|(injection ez with dP fZ dQ;have f_:=dP.symm;have gq:=dQ.symm;clear dP fZ dQ;subst f_;subst gq))
 refine rW (a':=?_) ?_ ?_
 rotate_left
 ·simp only [Aj,Act.put,List.setIfInBounds_toArray,List.set_cons_zero,List.set_cons_succ]
  rfl
 refine gB (i:=8) (N:=some 69) MS rfl rfl (jW aS.out aB) (by decide) (fun K hK=>?_)
 refine Kd.AZ bF (w0:=w) w.heap.size (by rfl) (.tmp 66) (.tmp 68) 26 43 (.agg #[(.string ⟨#[]⟩),(.bool false),(.string ⟨#[]⟩)]) 40 rfl underlying26 o8 rfl (by decide) (by omega) zy dz fK _ _ _ (fun aF=>some aF≠(.slice (some aa) a5.length ag:Value).ownBlock∧some aF≠(.slice ck fK.length cl:Value).ownBlock∧aF≠fQ) (fun _=>False) rfl rfl ?ku ?aR (fun _ _ h=>h) (fun _ h=>h.elim) ?kS ?lu ?kC ?aL ?_
 (case aR=>repeat (first|exact (Kd.bZ qx.out).2.2|(with_reducible refine Kd.jJ ?_ _)|(with_reducible refine Kd.jL ?_ _)|(with_reducible refine Kd.jK ?_)))
 (case lu=>exact ay)
 (case kS=>exact KJ)
 (case ku=>exact PO)
 (case kC=>exact (dO ay))
 (case aL=>have:=rV.out;omega)
 intro ac2 j5 ho hb hg hat
 rw [← ew.out] at ho
 have eP:=p_ (Kd.nZ (ok:=(fun aF=>some aF≠(.slice ck fK.length cl:Value).ownBlock∧aF≠fQ)) Xi hg hat) <| p_ (iE (g:=aN) (o:=.cells #[.slice (some aT) aH.length al] 28) (aj a7) hg (Kd.iw wJ.out a7.out (by decide))) <| p_ (iE (g:=ai) (o:=.cells #[.slice none 0 0] 28) (aj a8) hg (Kd.iw wJ.out a8.out (by decide))) <| p_ (iE (g:=ab) (o:=.cells #[.slice (some aa) a5.length ag] 28) (aj a6) hg (Kd.iw wJ.out a6.out (by decide))) <| p_ (iE (g:=fQ) (o:=.cells #[.string jD,.bool ((au aH dD).f1),.string ((au aH dD).f2)] 43) (aj eU) hg (Kd.qB wJ.out (fun _ hk=>hk.2.2))) <| p_ (Kd.nZ (ok:=(fun aF=>some aF≠(.slice (some aa) a5.length ag:Value).ownBlock∧aF≠fQ)) (by (with_reducible repeat (first|apply Kd.dR|apply Kd.dS|apply Kd.bK));exact Kd.bW qx.out (fun _ hk=>⟨⟨hk.2.1,hk.2.2⟩,hk.1⟩)) hg hat) <| p_ (hb) <| a_ (ho)
 clear fC a7 a8 a6 eU qx HB wJ
 obtain ⟨fC,a7,a8,a6,eU,qx,HB,fF⟩:=eP
 clear ho hb hg hat
 refine hK.out _ _ ⟨(aO a6.out 0).trans rfl,qC eU.out⟩ (fun hH=>?_)
 clear hK K
 refine fD (some 69) ?_
 refine eY 9 11 MV aS ?_
 refine iF (jB aS.out aB) ?_
 obtain ⟨am,an,ax,dw,bq,bp⟩:=kL ap ao ar aq b4 bb
 have adw:=cu a6.out
 have fo:(a9:Int)≤((a5.length:Int):Int):=bC bD
 obtain ⟨ah7,TU,_,Ud,_⟩:=info_parts o8
 have Ol:a5.length≤ag:=(Kd.bZ fC.out).2.1
 have TK:Kd.C bF _ (some aa) a5.length a5:=(Kd.bZ fC.out).2.2
 have fp:(0:Int)≤(a9:Int):=bC bD
 have ZM:=S9 (P:=Tryz.prog) 26 43 .i64 underlying26 TU 3 Ud (some aa) a5.length ag a9 fp fo
 have Ht:=Kd.IW (m:=(a9:Int).toNat) (c:=ag) TK (by omega) Ol
 obtain ⟨ia,JC⟩:∃ A1,A1=(if ag=(a9:Int).toNat then (some aa) else ((some aa):Option Addr).map (·.add ((a9:Int).toNat * 3))):=⟨_,rfl⟩
 obtain ⟨ip,N8⟩:∃ c1,c1=ag - (a9:Int).toNat:=⟨_,rfl⟩
 have d9:bo.length=a5.length - (a9:Int).toNat:=(by rw [d0.out,List.length_drop] <;> omega)
 rw [show (a5).drop (a9:Int).toNat=bo from d0.out.symm] at Ht
 replace Ht:Kd.C bF _ ia bo.length bo:=(by rw [JC];exact Ht)
 rw [← d9,← JC,← N8] at ZM
 have ca:=m_ Ht
 have ib:=m_ (show bo.length≤ip from by rw [d9,N8];exact Nat.sub_le_sub_right Ol _)
 clear Ht TK Ol TU Ud N8
 have adY:=m_ d9
 have X5:=m_ JC
 clear d9 JC
 have X8:=m_ (show (a9:Int).toNat≤a5.length from by omega)
 replace fo:=eq_true fo
 try go_wp2_with (first|((with_reducible refine wW (b:=.append) (xs:=#[.tmp 70,.tmp 74]) rfl ?_);at_builtin;refine Kd.Eu bF (w0:=w) w.heap.size rfl (.tmp 70) (.tmp 74) 26 43 (.agg #[(.string ⟨#[]⟩),(.bool false),(.string ⟨#[]⟩)]) 40 rfl underlying26 o8 rfl (by decide) (by omega) ac2 ev bo _ _ _ (fun aF=>some aF≠(.slice (some aa) a5.length ag:Value).ownBlock∧some aF≠(.slice ck fK.length cl:Value).ownBlock∧aF≠fQ) (fun _=>False) rfl rfl ?ku ?aR (fun _ _ h=>h) (fun _ h=>h.elim) ?kS ?lu ?kC ?aL ?_;(case aR=>repeat (first|exact (by repeat (first|(with_reducible exact ca.out)|(with_reducible refine Kd.jJ ?_ _)|(with_reducible refine Kd.jL ?_ _)|(with_reducible refine Kd.jK ?_)|exact ca.out))|(with_reducible refine Kd.jJ ?_ _)|(with_reducible refine Kd.jL ?_ _)|(with_reducible refine Kd.jK ?_)));(case lu=>exact ay);(case kS=>exact KJ);(case ku=>exact (aG fF));(case kC=>exact (dO ay));(case aL=>have:=ex.out;omega);intro aiP Ae ho hb hg hat;rw [← ey.out] at ho;have eP:=p_ (Kd.nZ (ok:=(fun aF=>some aF≠(.slice ck fK.length cl:Value).ownBlock∧aF≠fQ)) (aG fC) hg hat) <| p_ (iE (g:=aN) (o:=.cells #[.slice (some aT) aH.length al] 28) (aj a7) hg (Kd.iw fF.out a7.out (by decide))) <| p_ (iE (g:=ai) (o:=.cells #[.slice none 0 0] 28) (aj a8) hg (Kd.iw fF.out a8.out (by decide))) <| p_ (iE (g:=ab) (o:=.cells #[.slice (some aa) a5.length ag] 28) (aj a6) hg (Kd.iw fF.out a6.out (by decide))) <| p_ (iE (g:=fQ) (o:=.cells #[.string jD,.bool ((au aH dD).f1),.string ((au aH dD).f2)] 43) (aj eU) hg (Kd.qB fF.out (fun _ hk=>hk.2.2))) <| p_ (Kd.nZ (ok:=(fun aF=>some aF≠(.slice (some aa) a5.length ag:Value).ownBlock∧aF≠fQ)) (aG qx) hg hat) <| p_ (hb) <| p_ ((show Kd.C bF Ae ia bo.length bo from by rw [d0.out,X5.out];exact Kd.IW (m:=(a9:Int).toNat) (c:=ag) ((Kd.bZ (Kd.nZ (ok:=(fun aF=>some aF≠(.slice ck fK.length cl:Value).ownBlock∧aF≠fQ)) (aG fC) hg hat)).2.2) X8.out ((Kd.bZ (Kd.nZ (ok:=(fun aF=>some aF≠(.slice ck fK.length cl:Value).ownBlock∧aF≠fQ)) (aG fC) hg hat)).2.1))) <| a_ (ho);clear fC a7 a8 a6 eU qx HB ca fF;obtain ⟨fC,a7,a8,a6,eU,qx,HB,ca,kM⟩:=eP;clear ho hb hg hat;obtain ⟨fq,fs,ft⟩:=Kd.dJ kM.out;subst ft;have adx:=cu a6.out))
 go_roundg k4
 case measure=>have:=iq.out;have:=Em.out;have:=I7.out;have:=I8.out;omega
 case rel=>exact ⟨(wrap64 (dD+1)),(e0),(.slice fq e0.length fs),bg,H',⟨P7⟩,⟨(by (with_reducible repeat (first|apply Kd.dR|apply Kd.dS|apply Kd.bK));exact Kd.bW (aU (Kd.dL kM.out a6.out (by decide))) (fun _ hk=>trivial))⟩,⟨bH⟩,⟨bH⟩,⟨bH⟩,⟨ay⟩⟩

end Go.Proofs.YthejdhjpbpamoaaGreatDoor.jM
