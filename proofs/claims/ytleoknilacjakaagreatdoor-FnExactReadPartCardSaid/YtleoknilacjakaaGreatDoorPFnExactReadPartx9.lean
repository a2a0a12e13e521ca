/- Contracts of Go functions: each call returns what the Lean function beside it computes. Conditions: as each theorem states them. -/
import Derived.Test.YtleoknilacjakaaGreatDoorPkFnExactReadPart
import Derived.Test.YtleoknilacjakaaGreatDoorPFnExactReadPartx3
import Derived.Test.YtleoknilacjakaaGreatDoorPFnExactReadPartx6
namespace Go.Proofs.YtleoknilacjakaaGreatDoor.PFnExactReadPart
open Go.RowKit Go.Proofs.YtleoknilacjakaaGreatDoorW.PrintWords Go.Proofs.YtleoknilacjakaaGreatDoorW.PrintLast Go.Proofs.YtleoknilacjakaaGreatDoorW.PrintMore
attribute [local go_sem] max2_int min2_int max_two min_two max_three min_three max_four min_four setCell_drewN   -- for this text's walks alone
set_option linter.unusedVariables false
set_option maxHeartbeats 8000000
set_option maxRecDepth 100000
set_option linter.unusedSimpArgs false

mutual
def spec_InodeOk.j0:Nat→Bool→Int→Int→Int→ByteArray→List (S86)→List (S90)→Option (Bool)
 | 0,_,_,_,_,_,_,_=>none
 | k+1,ab,a5,a6,a7,a8,a9,aa=>if ab=true then (some false) else (spec_InodeOk.l0 k 0 a5 a6 a7 a8 a9 aa)
def spec_InodeOk.l0:Nat→Int→Int→Int→Int→ByteArray→List (S86)→List (S90)→Option (Bool)
 | 0,_,_,_,_,_,_,_=>none
 | k+1,x3,a6,a7,a8,a9,a5,aa=>if x3 < (a5.length:Int) then (if 0≤x3 then ((spec_RecWord.f k ((rd_T86 a5 x3).f0) ((rd_T86 a5 x3).f1) ((rd_T86 a5 x3).f2)).bind fun ab=>(if ab.toList=([]:List UInt8) then (some false) else (spec_InodeOk.l1 k x3 0 a6 a7 a8 a9 a5 aa))) else (none)) else (some true)
def spec_InodeOk.l1:Nat→Int→Int→Int→Int→Int→ByteArray→List (S86)→List (S90)→Option (Bool)
 | 0,_,_,_,_,_,_,_,_=>none
 | k+1,x3,x4,a6,a7,a8,a9,a5,aa=>if x4 < x3 then (if 0≤x4 then (if x4 < (a5.length:Int) then (if 0≤x3 then (if x3 < (a5.length:Int) then (if ((rd_T86 a5 x4).f0)=((rd_T86 a5 x3).f0) then (some false) else (spec_InodeOk.l1 k x3 (wrap64 (x4+1)) a6 a7 a8 a9 a5 aa)) else (none)) else (none)) else (none)) else (none)) else (spec_InodeOk.l0 k (wrap64 (x3+1)) a6 a7 a8 a9 a5 aa)
def spec_InodeOk.j3:Nat→Bool→Int→Int→Int→ByteArray→List (S86)→List (S90)→Option (Bool)
 | 0,_,_,_,_,_,_,_=>none
 | k+1,ab,a5,a6,a7,a8,a9,aa=>if ab=true then (some false) else (spec_InodeOk.l2 k 0 a5 a6 a7 a8 a9 aa)
def spec_InodeOk.l2:Nat→Int→Int→Int→Int→ByteArray→List (S86)→List (S90)→Option (Bool)
 | 0,_,_,_,_,_,_,_=>none
 | k+1,x5,a6,a7,a8,a9,aa,a5=>if x5 < (a5.length:Int) then (if 0≤x5 then ((spec_EntryWord.f k ((rd_T90 a5 x5).f0) ((rd_T90 a5 x5).f1)).bind fun ab=>(if ab.toList=([]:List UInt8) then (some false) else (if x5 > 0 then (if 0≤(wrap64 (x5 - 1)) then (if (wrap64 (x5 - 1)) < (a5.length:Int) then (if ((Op.bytesLess (((rd_T90 a5 (wrap64 (x5 - 1))).f1).toList) (((rd_T90 a5 x5).f1).toList))=true) then (spec_InodeOk.l2 k (wrap64 (x5+1)) a6 a7 a8 a9 aa a5) else (some false)) else (none)) else (none)) else (spec_InodeOk.l2 k (wrap64 (x5+1)) a6 a7 a8 a9 aa a5)))) else (none)) else (some true)
end
def spec_InodeOk.f (k:Nat) (a6:Int) (a5:Int) (aa:Int) (a7:ByteArray) (a8:List (S86)) (a9:List (S90)):Option (Bool):=(spec_l01In.f aa 0 65535).bind fun ab=>(if ab=true then (if a6=0 then (if a5=0 then (if a7.toList=([]:List UInt8) then (if (a8.length:Int)=0 then (some ((a9.length:Int) == 0)) else (some false)) else (some false)) else (some false)) else (if a6=1 then ((spec_l01In.f a5 0 128).bind fun ac=>(if ac=true then (if (a7.size:Int)=8 then ((spec_PagesFor.f a5).bind fun ae=>(if (a8.length:Int)=ae then (spec_InodeOk.j0 k (decide ((a9.length:Int) > 0)) a6 a5 aa a7 a8 a9) else (spec_InodeOk.j0 k true a6 a5 aa a7 a8 a9))) else (spec_InodeOk.j0 k true a6 a5 aa a7 a8 a9)) else (spec_InodeOk.j0 k true a6 a5 aa a7 a8 a9))) else (if a6=2 then (if a5=0 then (if a7.toList=([]:List UInt8) then (if (a8.length:Int) > 0 then (spec_InodeOk.j3 k true a6 a5 aa a7 a8 a9) else (spec_InodeOk.j3 k (decide ((a9.length:Int) > 6)) a6 a5 aa a7 a8 a9)) else (spec_InodeOk.j3 k true a6 a5 aa a7 a8 a9)) else (spec_InodeOk.j3 k true a6 a5 aa a7 a8 a9)) else (some false)))) else (some false))
def spec_InodeOk.T7:Bool × List (List Nat × List Nat):=(true,[([],[]),([0],[0]),([1],[1]),([2],[2]),([3,2],[3]),([4],[4]),([5,4],[4,5]),([6,4],[4,6]),([7,4],[4,7]),([4,8],[4,8]),([9,4],[9]),([10],[10]),([11,10],[10,11]),([12,10],[10,12]),([10],[10]),([14,10],[10,14]),([15,10,10],[10,15]),([13,16,10],[10,13,16]),([10,17],[10,17]),([18,16],[18]),([19],[19]),([20,19],[19,20]),([21,19],[19,21]),([22,19],[19,22]),([19,23],[19,23])])
def spec_InodeOk.B7:List Nat:=[0,1,3,7,15,31,63,127,255,511,1023,2047,4095,8191,2047,18431,51199,131071,262143,524287,1048575,2097151,4194303,8388607,16777215]
theorem spec_InodeOk.tab7:rtab .any (opsOf Tryz.f78 7)=spec_InodeOk.T7:=by kernel_rfl
theorem spec_InodeOk.bits7:waitsOk spec_InodeOk.T7.2 spec_InodeOk.B7=true:=by kernel_rfl
def spec_InodeOk.T17:Bool × List (List Nat × List Nat):=(true,[([],[]),([0],[0]),([],[]),([1,2],[1,2]),([3],[3]),([4],[4]),([],[]),([6],[6]),([],[]),([7,8],[7,8]),([9],[9]),([10],[10]),([5,11],[5,11])])
def spec_InodeOk.B17:List Nat:=[0,1,0,7,15,31,0,64,0,448,960,1984,4095]
theorem spec_InodeOk.tab17:rtab .any (opsOf Tryz.f78 17)=spec_InodeOk.T17:=by kernel_rfl
theorem spec_InodeOk.bits17:waitsOk spec_InodeOk.T17.2 spec_InodeOk.B17=true:=by kernel_rfl
def spec_InodeOk.T26:Bool × List (List Nat × List Nat):=(true,[([],[]),([0],[0]),([],[]),([1,2],[1,2]),([3],[3]),([4],[4]),([5],[5]),([6,5],[6]),([7],[7]),([8,7],[7,8]),([9,7,7],[7,9]),([10],[10]),([11,10],[10,11]),([10],[10]),([13,10],[10,13]),([12,14,10],[10,12,14]),([15,10],[10,15]),([16,10],[10,16]),([10],[10]),([18,10],[10,18]),([10],[10]),([19,20,10],[10,19,20]),([21,10],[10,21]),([22,10],[10,22]),([17,23,10],[10,17,23]),([10,24,7],[7,10,24]),([7,25],[7,25])])
def spec_InodeOk.B26:List Nat:=[0,1,0,7,15,31,63,127,255,511,1023,2047,4095,2047,10239,32767,65535,131071,2047,264191,2047,1837055,3934207,8128511,16777215,33554431,67108863]
theorem spec_InodeOk.tab26:rtab .any (opsOf Tryz.f78 26)=spec_InodeOk.T26:=by kernel_rfl
theorem spec_InodeOk.bits26:waitsOk spec_InodeOk.T26.2 spec_InodeOk.B26=true:=by kernel_rfl
theorem spec_InodeOk.calls (k:Nat) (ag:Int) (a9:Int) (ai:Int) (ah:ByteArray) (av:Option Addr) (al:Nat) (l0_4:List (S86)) (aw:Option Addr) (am:Nat) (a7:List (S90)) (r:Bool) (w:World) (db:Kd.C k86 w av l0_4.length l0_4) (dc:l0_4.length≤al) (dd:Kd.C k90 w aw a7.length a7) (de:a7.length≤am) (h:spec_InodeOk.f k ag a9 ai ah l0_4 a7=some r) :
  Calls Tryz.prog 78 #[.agg #[.int .i64 ag,.int .i64 a9,.int .i64 ai,.string ah,.slice av l0_4.length al,.slice aw a7.length am]] w fun e w'=>e=.returned (.bool r)∧Below w.heap.size w w':=by
 have hu62:=Tryz.underlying62
 have hu86:=Tryz.underlying86
 have hu90:=Tryz.underlying90
 have HR0_4:=m_ db
 have fb:=m_ dc
 clear db dc
 have HR0_5:=m_ dd
 have fc:=m_ de
 clear dd de
 have HB:=m_ (Below.refl w.heap.size w)
 unfold spec_InodeOk.f at h
 have H:=h
 clear h
 obtain ⟨e2,A2,H⟩:=bd_ H
 have fd:=m_ H
 clear H
 go_enter Tryz.func78,Tryz.ntmps78
 go_upto_if 9 with (first|((with_reducible refine gate_dst (N:=1) rfl ?_);(try (refine gate_guard (by rfl) ?_;dsimp only));refine be_ 1 (cs:=#[.int .i64 ag,.int .i64 a9,.int .i64 ai,.string ah,.slice av l0_4.length al,.slice aw a7.length am]) 62 ?_;intro a6 hg w4 hbox hb;have z_:=bx0_ th_ hb hbox hg;clear HB;obtain ⟨HB,a5,fe,ff⟩:=z_;clear hb hbox hg;have fp:=bb6_ a5.out)|((with_reducible refine gate_callee (f:=42) rfl ?_);refine goesL_ (some 8) rfl rfl Tryz.func42 kr_ rfl #[.int .i64 ai,.int .i64 0,.int .i64 65535] rfl tq_0 ?_;(with_reducible refine (spec_l01In.calls ai 0 65535 e2 _ A2.out).mono ?_);rintro e w' ⟨rfl,⟨nd_1,rfl⟩⟩;refine ⟨_,rfl,?_⟩))
 (try simp only [Act.put,List.setIfInBounds_toArray,List.set_cons_zero,List.set_cons_succ])
 (try clear fp)
 have H:=fd.out
 clear fd
 by_cases c6:e2=true
 rotate_left
 ·replace c6:=Bool.eq_false_iff.mpr c6
  subst c6
  rw [if_neg nf_] at H
  obtain rfl:=oi_ H
  go_wp2
  go_ret
  exact ⟨tq_1,th_⟩
 subst c6
 rw [if_pos rfl] at H
 have fg:=m_ H
 clear H
 have fq:=bb6_ a5.out
 go_upto_if 12 with (fail)
 (try clear fq)
 have H:=fg.out
 clear fg
 by_cases c9:ag=0
 ·rw [if_pos c9] at H
  have cd:=qa_ c9
  have ew:=qb_ c9
  clear c9
  (first|rw [cd]|(simp only [i64_w,i32_w];rw [cd])|skip)
  by_cases dn:a9=0
  rotate_left
  ·rw [if_neg dn] at H
   have e3:=qc_ dn
   have e4:=qd_ dn
   obtain rfl:=oi_ H
   have fr:=bb6_ a5.out
   go_wp2
   go_ret
   exact ⟨tq_1,th_⟩
  rw [if_pos dn] at H
  have e3:=qa_ dn
  have e4:=qb_ dn
  clear dn
  by_cases dp:ah.toList=([]:List UInt8)
  rotate_left
  ·rw [if_neg dp] at H
   have e5:=qc_ dp
   have e6:=qd_ dp
   obtain rfl:=oi_ H
   have fs:=bb6_ a5.out
   go_wp2
   go_ret
   exact ⟨tq_1,th_⟩
  rw [if_pos dp] at H
  have e5:=qa_ dp
  have e6:=qb_ dp
  clear dp
  by_cases df:(l0_4.length:Int)=0
  ·rw [if_pos df] at H
   have e7:=qa_ df
   have e8:=qb_ df
   clear df
   obtain rfl:=oi_ H
   have ft:=bb6_ a5.out
   go_wp2
   go_ret
   exact ⟨tq_1,th_⟩
  rw [if_neg df] at H
  have e7:=qc_ df
  have e8:=qd_ df
  have fh:¬ (l0_4=[]):=fun h_=>df (by rw [h_];rfl)
  obtain rfl:=oi_ H
  have fu:=bb6_ a5.out
  go_wp2
  go_ret
  exact ⟨tq_1,th_⟩
 rw [if_neg c9] at H
 have cd:=qc_ c9
 have ew:=qd_ c9
 (first|rw [cd]|(simp only [i64_w,i32_w];rw [cd])|skip)
 by_cases cx:ag=1
 rotate_left
 ·rw [if_neg cx] at H
  have ce:=qc_ cx
  have cf:=qd_ cx
  by_cases cy:ag=2
  rotate_left
  ·rw [if_neg cy] at H
   have cg:=qc_ cy
   have ch:=qd_ cy
   obtain rfl:=oi_ H
   go_wp2
   go_ret
   exact ⟨tq_1,th_⟩
  rw [if_pos cy] at H
  have cg:=qa_ cy
  have ch:=qb_ cy
  clear cy
  have dq:=m_ H
  clear H
  go_upto_region 21 with (fail)
  go_cut [114] (fun v114 wc=>∃ (kq:Nat) (b9:Bool),v114=.bool b9∧Aside0 (spec_InodeOk.j3 kq b9 ag a9 ai ah l0_4 a7=some r)∧Aside0 (kq≤k)∧Aside0 (wc.heap[a6]?=some (.cells #[.int .i64 ag,.int .i64 a9,.int .i64 ai,.string ah,(.slice av l0_4.length al),(.slice aw a7.length am)] 62 (0,0)))∧Aside0 (Below w.heap.size w wc))
  case first =>
   have H:=dq.out
   clear dq
   by_cases cz:a9=0
   rotate_left
   ·rw [if_neg cz] at H
    have be:=qc_ cz
    have ci:=qd_ cz
    (first|rw [be]|(simp only [i64_w,i32_w];rw [be])|skip)
    have H':=m_ H
    clear H
    have d0:=bb6_ a5.out
    go_wp2
    go_meet
    case rel=>exact ⟨_,(true),tq_3,H',⟨tq_12⟩,⟨(kb_ a5)⟩,⟨th_⟩⟩
   rw [if_pos cz] at H
   have be:=qa_ cz
   have ci:=qb_ cz
   clear cz
   (first|rw [be]|(simp only [i64_w,i32_w];rw [be])|skip)
   by_cases d1:ah.toList=([]:List UInt8)
   rotate_left
   ·rw [if_neg d1] at H
    have cj:=qc_ d1
    have ck:=qd_ d1
    have H':=m_ H
    clear H
    have d2:=bb6_ a5.out
    go_wp2
    go_meet
    case rel=>exact ⟨_,(true),tq_3,H',⟨tq_12⟩,⟨(kb_ a5)⟩,⟨th_⟩⟩
   rw [if_pos d1] at H
   have cj:=qa_ d1
   have ck:=qb_ d1
   clear d1
   by_cases dg:(l0_4.length:Int) > 0
   ·rw [if_pos dg] at H
    have cl:=de_ dg
    have cm:decide (0 < l0_4.length)=true:=de_ (by omega)
    clear dg
    have H':=m_ H
    clear H
    have d3:=bb6_ a5.out
    go_wp2
    go_meet
    case rel=>exact ⟨_,(true),tq_3,H',⟨tq_12⟩,⟨(kb_ a5)⟩,⟨th_⟩⟩
   rw [if_neg dg] at H
   have cl:=df_ dg
   have cm:decide (0 < l0_4.length)=false:=df_ (by omega)
   clear dg
   have H':=m_ H
   clear H
   have d4:=bb6_ a5.out
   go_wp2
   go_meet
   case rel=>exact ⟨_,(decide ((a7.length:Int) > 6)),tq_3,H',⟨tq_12⟩,⟨(kb_ a5)⟩,⟨th_⟩⟩
  case rest =>
  clear dq
  try clear c1;try clear c2;try clear p2;try clear q2;try clear hx2;try clear c3;try clear c4;try clear c5;try clear p6;try clear c7;try clear c9;try clear cx;try clear ce;try clear cf;try clear d5;try clear cb;try clear b2;try clear bi;try clear cc;try clear bj;try clear bl;try clear eo;try clear ep;try clear hx25;try clear dh;try clear d6;try clear b8;try clear e9;try clear cn;try clear cw;try clear b3;try clear bq;try clear di;try clear co;try clear eq;try clear dj;try clear er;try clear dk;try clear es;try clear dl;try clear et;try clear dm;try clear d7;try clear bf;try clear cp;try clear cy;try clear cg;try clear ch;try clear cz;try clear be;try clear ci;try clear d1;try clear cj;try clear ck;try clear dg;try clear cl;try clear cm;try clear bo;try clear bp;try clear d3;try clear d4;try clear d2;try clear d0;try clear bo;try clear bp;try clear d3;try clear d4;try clear d2;try clear d0;try clear az;try clear b0;try clear b1;try clear an;try clear ao;try clear ap;try clear aq;try clear ar;try clear au;try clear p2;try clear eo;try clear bz;try clear cq;try clear cr;try clear q2;try clear ep;try clear ca;try clear ct;try clear cu
  obtain ⟨kq,b9,rfl,HA,HJ46,a5,HB⟩:=hcut
  cases kq with
  | zero=>exact absurd HA.out (by simp [spec_InodeOk.j3])
  | succ kj46 =>
  have H:=HA.out
  clear HA
  simp only [spec_InodeOk.j3] at H
  by_cases ea:b9=true
  ·subst ea
   rw [if_pos rfl] at H
   obtain rfl:=oi_ H
   go_wp2
   go_ret
   exact ⟨tq_1,th_⟩
  replace ea:=Bool.eq_false_iff.mpr ea
  subst ea
  rw [if_neg nf_] at H
  have H':=m_ H
  clear H
  go_wp2
  go_loopg [5] kj46 (fun kq v5 w'=>∃ (a8:Int),v5=.int .i64 a8∧Aside0 (spec_InodeOk.l2 kq a8 ag a9 ai ah l0_4 a7=some r)∧Aside0 (kq≤kj46)∧Aside0 (w'.heap[a6]?=some (.cells #[.int .i64 ag,.int .i64 a9,.int .i64 ai,.string ah,(.slice av l0_4.length al),(.slice aw a7.length am)] 62 (0,0)))∧Aside0 (Below w.heap.size w w'))
  case atStart=>exact ⟨(0),tq_3,H',⟨Nat.le_refl _⟩,⟨(kb_ a5)⟩,⟨th_⟩⟩
  case round =>
  clear H'
  try clear c1;try clear c2;try clear p2;try clear q2;try clear hx2;try clear c3;try clear c4;try clear c5;try clear p6;try clear c7;try clear c9;try clear cx;try clear ce;try clear cf;try clear d5;try clear cb;try clear b2;try clear bi;try clear cc;try clear bj;try clear bl;try clear eo;try clear ep;try clear hx25;try clear dh;try clear d6;try clear b8;try clear e9;try clear cn;try clear cw;try clear b3;try clear bq;try clear di;try clear co;try clear eq;try clear dj;try clear er;try clear dk;try clear es;try clear dl;try clear et;try clear dm;try clear d7;try clear bf;try clear cp;try clear cy;try clear cg;try clear ch;try clear cz;try clear be;try clear ci;try clear d1;try clear cj;try clear ck;try clear dg;try clear cl;try clear cm;try clear ea;try clear bo;try clear bp;try clear d3;try clear d4;try clear d2;try clear d0;try clear bo;try clear bp;try clear d3;try clear d4;try clear d2;try clear d0;try clear az;try clear b0;try clear b1;try clear an;try clear ao;try clear ap;try clear aq;try clear ar;try clear au;try clear p2;try clear eo;try clear bz;try clear cq;try clear cr;try clear p6;try clear q2;try clear ep;try clear ca;try clear ct;try clear cu
  obtain ⟨a8,rfl,HA,d8,a5,HB⟩:=hrel
  cases gk with
  | zero=>exact absurd HA.out (by simp [spec_InodeOk.l2])
  | succ k2 =>
  have H:=HA.out
  clear HA
  simp only [spec_InodeOk.l2] at H
  have eb:=m_ H
  clear H
  have ex:=bb6_ a5.out
  go_upto_if 119 with (fail)
  (try clear ex)
  have H:=eb.out
  clear eb
  by_cases dz:a8 < (a7.length:Int)
  rotate_left
  ·rw [if_neg dz] at H
   have bn:=df_ dz
   clear dz
   (first|rw [bn]|(simp only [i64_w,i32_w];rw [bn])|skip)
   obtain rfl:=oi_ H
   go_wp2
   go_ret
   exact ⟨tq_1,th_⟩
  rw [if_pos dz] at H
  have bn:=de_ dz
  clear dz
  (first|rw [bn]|(simp only [i64_w,i32_w];rw [bn])|skip)
  obtain ⟨fi,H⟩:=fc_ H
  have fj:=de_ fi
  clear fi
  obtain ⟨d9,eu,H⟩:=bd_ H
  by_cases dr:d9.toList=([]:List UInt8)
  ·rw [if_pos dr] at H
   have ec:=qa_ dr
   have ed:=qb_ dr
   clear dr
   obtain rfl:=oi_ H
   try go_wp2
   have z_:=dw1_ a5 HB
   clear a5 HB
   obtain ⟨a5,HB⟩:=z_
   have bg:0≤(a8:Int):=od_ tq_2
   have bh:a8 < (a7.length:Int):=od_ tq_2
   obtain ⟨af,cv,aa,ab⟩:=at_T90 HR0_5.out a8 bg bh
   have ac:=ab
   have ae:=aa
   cases cv
   replace aa:=hx_ HB.out aa
   replace ab:=hx_ HB.out ab
   replace bg:=eq_true bg
   replace bh:=eq_true bh
   refine start_ (n:=27) (S:=fun w'=>w'.cell? ⟨a6,0,none⟩=some (.int .i64 ag)∧w'.cell? ⟨a6,1,none⟩=some (.int .i64 a9)∧w'.cell? ⟨a6,2,none⟩=some (.int .i64 ai)∧w'.cell? ⟨a6,3,none⟩=some (.string ah)∧w'.cell? ⟨a6,4,none⟩=some (.slice av l0_4.length al)∧w'.cell? ⟨a6,5,none⟩=some (.slice (some af) a7.length am)∧w'.cell? (af.add ((a8).toNat * 2))=some (.int .i64 ((rd_T90 a7 a8).f0))∧w'.cell? ⟨(af.add ((a8).toNat * 2)).block,(af.add ((a8).toNat * 2)).off+1,none⟩=some (.string ((rd_T90 a7 a8).f1))) (ds:=[]) bq_158 kr_ rfl rfl (bc6_ a5.out ⟨((HB.out.cell (World.block_lt_of_cell? w _ ae)).trans ae),((HB.out.cell (World.block_lt_of_cell? w _ ac)).trans ac)⟩) (fun hHeld=>?_);refine with_tabW spec_InodeOk.tab26 spec_InodeOk.bits26 (fun HT_ HW_=>?_)
   generalize wr.drew=fx at a5 HB aa ab hHeld ⊢
   refine yr_ 0 122 bq_159 HT_ ?_
   refine yr_ 2 124 bq_160 HT_ ?_
   refine tr_ 1 123 bq_161 HT_ HW_ hHeld ?_
   refine yr_ 3 125 bq_162 HT_ ?_
   refine tr_ 4 126 bq_163 HT_ HW_ hHeld ?_
   refine one_ (i:=5) (N:=some 127) bq_164 rfl rfl (one_of HT_.out kr_) (by decide) (fun K hK=>?_)
   refine goes_ Tryz.func77 kr_ rfl #[.agg #[.int .i64 ((rd_T90 a7 a8).f0),.string ((rd_T90 a7 a8).f1)]] (by rfl) rfl rfl tq_0 ?_
   with_reducible refine (spec_EntryWord.calls k2 ((rd_T90 a7 a8).f0) ((rd_T90 a7 a8).f1) d9 _ eu.out).mono ?_
   rintro e fy ⟨rfl,hb⟩
   refine ⟨_,rfl,?_⟩
   have z_:=bw1_ (kb_ a5) th_ hb
   clear a5 HB
   obtain ⟨a5,HB⟩:=z_
   (try clear hb)
   refine hK.out _ _ (bc6_ a5.out ⟨((HB.out.cell (World.block_lt_of_cell? w _ ae)).trans ae),((HB.out.cell (World.block_lt_of_cell? w _ ac)).trans ac)⟩) (fun hHeld=>?_)
   clear hK K
   refine nm_ (some 127) ?_
   refine yr_ 6 128 bq_165 HT_ ?_
   refine yr_ 7 129 bq_166 HT_ ?_
   refine ur_ 8 130 bq_167 HT_ ?_
   refine ur_ 9 131 bq_168 HT_ ?_
   refine ur_ 10 132 bq_169 HT_ ?_
   refine ur_ 11 133 bq_170 HT_ ?_
   refine ur_ 12 134 bq_232 HT_ ?_
   refine ur_ 13 135 bq_233 HT_ ?_
   refine ur_ 14 136 bq_234 HT_ ?_
   refine ur_ 15 137 bq_235 HT_ ?_
   refine ur_ 16 138 bq_236 HT_ ?_
   refine ur_ 17 139 bq_237 HT_ ?_
   refine ur_ 18 140 bq_238 HT_ ?_
   refine ur_ 19 141 bq_239 HT_ ?_
   refine ur_ 20 142 bq_171 HT_ ?_
   refine ur_ 21 143 bq_172 HT_ ?_
   refine ur_ 22 144 bq_173 HT_ ?_
   refine ur_ 23 145 bq_174 HT_ ?_
   refine ur_ 24 146 bq_175 HT_ ?_
   refine ur_ 25 147 bq_176 HT_ ?_
   refine yr_ 26 148 bq_177 HT_ ?_
   refine done_ (done_of HT_.out kr_) ?_
   try go_wp2
   go_ret
   exact ⟨tq_1,th_⟩
  rw [if_neg dr] at H
  have ec:=qc_ dr
  have ed:=qd_ dr
  by_cases e0:a8 > 0
  rotate_left
  ·rw [if_neg e0] at H
   have ee:=df_ e0
   clear e0
   have H':=m_ H
   clear H
   try go_wp2
   have z_:=dw1_ a5 HB
   clear a5 HB
   obtain ⟨a5,HB⟩:=z_
   have bg:0≤(a8:Int):=od_ tq_2
   have bh:a8 < (a7.length:Int):=od_ tq_2
   obtain ⟨af,cv,aa,ab⟩:=at_T90 HR0_5.out a8 bg bh
   have ac:=ab
   have ae:=aa
   cases cv
   replace aa:=hx_ HB.out aa
   replace ab:=hx_ HB.out ab
   replace bg:=eq_true bg
   replace bh:=eq_true bh
   refine start_ (n:=27) (S:=fun w'=>w'.cell? ⟨a6,0,none⟩=some (.int .i64 ag)∧w'.cell? ⟨a6,1,none⟩=some (.int .i64 a9)∧w'.cell? ⟨a6,2,none⟩=some (.int .i64 ai)∧w'.cell? ⟨a6,3,none⟩=some (.string ah)∧w'.cell? ⟨a6,4,none⟩=some (.slice av l0_4.length al)∧w'.cell? ⟨a6,5,none⟩=some (.slice (some af) a7.length am)∧w'.cell? (af.add ((a8).toNat * 2))=some (.int .i64 ((rd_T90 a7 a8).f0))∧w'.cell? ⟨(af.add ((a8).toNat * 2)).block,(af.add ((a8).toNat * 2)).off+1,none⟩=some (.string ((rd_T90 a7 a8).f1))) (ds:=[]) bq_158 kr_ rfl rfl (bc6_ a5.out ⟨((HB.out.cell (World.block_lt_of_cell? w _ ae)).trans ae),((HB.out.cell (World.block_lt_of_cell? w _ ac)).trans ac)⟩) (fun hHeld=>?_);refine with_tabW spec_InodeOk.tab26 spec_InodeOk.bits26 (fun HT_ HW_=>?_)
   generalize wr.drew=fz at a5 HB aa ab hHeld ⊢
   refine yr_ 0 122 bq_159 HT_ ?_
   refine yr_ 2 124 bq_160 HT_ ?_
   refine tr_ 1 123 bq_161 HT_ HW_ hHeld ?_
   refine yr_ 3 125 bq_162 HT_ ?_
   refine tr_ 4 126 bq_163 HT_ HW_ hHeld ?_
   refine one_ (i:=5) (N:=some 127) bq_164 rfl rfl (one_of HT_.out kr_) (by decide) (fun K hK=>?_)
   refine goes_ Tryz.func77 kr_ rfl #[.agg #[.int .i64 ((rd_T90 a7 a8).f0),.string ((rd_T90 a7 a8).f1)]] (by rfl) rfl rfl tq_0 ?_
   with_reducible refine (spec_EntryWord.calls k2 ((rd_T90 a7 a8).f0) ((rd_T90 a7 a8).f1) d9 _ eu.out).mono ?_
   rintro e g6 ⟨rfl,hb⟩
   refine ⟨_,rfl,?_⟩
   have z_:=bw1_ (kb_ a5) th_ hb
   clear a5 HB
   obtain ⟨a5,HB⟩:=z_
   (try clear hb)
   refine hK.out _ _ (bc6_ a5.out ⟨((HB.out.cell (World.block_lt_of_cell? w _ ae)).trans ae),((HB.out.cell (World.block_lt_of_cell? w _ ac)).trans ac)⟩) (fun hHeld=>?_)
   clear hK K
   refine nm_ (some 127) ?_
   refine yr_ 6 128 bq_165 HT_ ?_
   refine yr_ 7 129 bq_166 HT_ ?_
   refine yr_ 8 130 bq_167 HT_ ?_
   refine yr_ 9 131 bq_168 HT_ ?_
   refine yr_ 10 132 bq_169 HT_ ?_
   refine ur_ 11 133 bq_170 HT_ ?_
   refine ur_ 12 134 bq_232 HT_ ?_
   refine ur_ 13 135 bq_233 HT_ ?_
   refine ur_ 14 136 bq_234 HT_ ?_
   refine ur_ 15 137 bq_235 HT_ ?_
   refine ur_ 16 138 bq_236 HT_ ?_
   refine ur_ 17 139 bq_237 HT_ ?_
   refine ur_ 18 140 bq_238 HT_ ?_
   refine ur_ 19 141 bq_239 HT_ ?_
   refine ur_ 20 142 bq_171 HT_ ?_
   refine ur_ 21 143 bq_172 HT_ ?_
   refine ur_ 22 144 bq_173 HT_ ?_
   refine ur_ 23 145 bq_174 HT_ ?_
   refine ur_ 24 146 bq_175 HT_ ?_
   refine yr_ 25 147 bq_176 HT_ ?_
   refine yr_ 26 148 bq_177 HT_ ?_
   refine done_ (done_of HT_.out kr_) ?_
   try go_wp2
   go_roundg k2
   case measure=>have:=HJ46.out;have:=d8.out;omega
   case rel=>exact ⟨(wrap64 (a8+1)),tq_3,H',⟨(by have:=HJ46.out;have:=d8.out;omega)⟩,⟨(kb_ a5)⟩,⟨th_⟩⟩
  rw [if_pos e0] at H
  have ee:=de_ e0
  clear e0
  obtain ⟨ji65,hji65⟩:∃ j_:Int,(wrap64 (a8 - 1))=j_:=⟨_,rfl⟩
  replace H:(if 0≤(ji65) then (if (ji65) < (a7.length:Int) then (if ((Op.bytesLess (((rd_T90 a7 (ji65)).f1).toList) (((rd_T90 a7 a8).f1).toList))=true) then (spec_InodeOk.l2 k2 (wrap64 (a8+1)) ag a9 ai ah l0_4 a7) else (some false)) else (none)) else (none))=some r:=by first|(rw [hji65] at H;exact H)|(simp only [hji65] at H ⊢;exact H)
  (try rw [hji65] at eu)
  have hji65w:(IntKind.i64.wrap (a8 - 1))=ji65:=(i64_w _).trans hji65
  obtain ⟨fk,H⟩:=fc_ H
  have fl:=de_ fk
  clear fk
  obtain ⟨fm,H⟩:=fc_ H
  have fn:=de_ fm
  clear fm
  have ef:=m_ H
  clear H
  try go_wp2
  have z_:=dw1_ a5 HB
  clear a5 HB
  obtain ⟨a5,HB⟩:=z_
  have bg:0≤(a8:Int):=od_ tq_2
  have bh:a8 < (a7.length:Int):=od_ tq_2
  obtain ⟨af,cv,aa,ab⟩:=at_T90 HR0_5.out a8 bg bh
  have ac:=ab
  have ae:=aa
  cases cv
  replace aa:=hx_ HB.out aa
  replace ab:=hx_ HB.out ab
  replace bg:=eq_true bg
  replace bh:=eq_true bh
  have dt:0≤((ji65):Int):=od_ tq_2
  have du:(ji65) < (a7.length:Int):=od_ tq_2
  obtain ⟨eh,ey,b4,b5⟩:=at_T90 HR0_5.out (ji65) dt du
  have ba:=b5
  have bb:=b4
  obtain rfl:af=eh:=(by injection ey)
  replace b4:=hx_ HB.out b4
  replace b5:=hx_ HB.out b5
  replace dt:=eq_true dt
  replace du:=eq_true du
  have dv:0≤(a8:Int):=od_ tq_2
  have dw:a8 < (a7.length:Int):=od_ tq_2
  obtain ⟨ei,ez,b6,b7⟩:=at_T90 HR0_5.out a8 dv dw
  have bc:=b7
  have bd:=b6
  obtain rfl:af=ei:=(by injection ez)
  replace b6:=hx_ HB.out b6
  replace b7:=hx_ HB.out b7
  replace dv:=eq_true dv
  replace dw:=eq_true dw
  refine start_ (n:=27) (S:=fun w'=>w'.cell? ⟨a6,0,none⟩=some (.int .i64 ag)∧w'.cell? ⟨a6,1,none⟩=some (.int .i64 a9)∧w'.cell? ⟨a6,2,none⟩=some (.int .i64 ai)∧w'.cell? ⟨a6,3,none⟩=some (.string ah)∧w'.cell? ⟨a6,4,none⟩=some (.slice av l0_4.length al)∧w'.cell? ⟨a6,5,none⟩=some (.slice (some af) a7.length am)∧w'.cell? (af.add ((a8).toNat * 2))=some (.int .i64 ((rd_T90 a7 a8).f0))∧w'.cell? ⟨(af.add ((a8).toNat * 2)).block,(af.add ((a8).toNat * 2)).off+1,none⟩=some (.string ((rd_T90 a7 a8).f1))∧w'.cell? (af.add (((ji65)).toNat * 2))=some (.int .i64 ((rd_T90 a7 (ji65)).f0))∧w'.cell? ⟨(af.add (((ji65)).toNat * 2)).block,(af.add (((ji65)).toNat * 2)).off+1,none⟩=some (.string ((rd_T90 a7 (ji65)).f1))∧w'.cell? (af.add ((a8).toNat * 2))=some (.int .i64 ((rd_T90 a7 a8).f0))∧w'.cell? ⟨(af.add ((a8).toNat * 2)).block,(af.add ((a8).toNat * 2)).off+1,none⟩=some (.string ((rd_T90 a7 a8).f1))) (ds:=[]) bq_158 kr_ rfl rfl (bc6_ a5.out ⟨((HB.out.cell (World.block_lt_of_cell? w _ ae)).trans ae),((HB.out.cell (World.block_lt_of_cell? w _ ac)).trans ac),((HB.out.cell (World.block_lt_of_cell? w _ bb)).trans bb),((HB.out.cell (World.block_lt_of_cell? w _ ba)).trans ba),((HB.out.cell (World.block_lt_of_cell? w _ bd)).trans bd),((HB.out.cell (World.block_lt_of_cell? w _ bc)).trans bc)⟩) (fun hHeld=>?_);refine with_tabW spec_InodeOk.tab26 spec_InodeOk.bits26 (fun HT_ HW_=>?_)
  generalize wr.drew=g7 at a5 HB aa ab b4 b5 b6 b7 hHeld ⊢
  refine yr_ 0 122 bq_159 HT_ ?_
  refine yr_ 2 124 bq_160 HT_ ?_
  refine tr_ 1 123 bq_161 HT_ HW_ hHeld ?_
  refine yr_ 3 125 bq_162 HT_ ?_
  refine tr_ 4 126 bq_163 HT_ HW_ hHeld ?_
  refine one_ (i:=5) (N:=some 127) bq_164 rfl rfl (one_of HT_.out kr_) (by decide) (fun K hK=>?_)
  refine goes_ Tryz.func77 kr_ rfl #[.agg #[.int .i64 ((rd_T90 a7 a8).f0),.string ((rd_T90 a7 a8).f1)]] (by rfl) rfl rfl tq_0 ?_
  with_reducible refine (spec_EntryWord.calls k2 ((rd_T90 a7 a8).f0) ((rd_T90 a7 a8).f1) d9 _ eu.out).mono ?_
  rintro e g8 ⟨rfl,hb⟩
  refine ⟨_,rfl,?_⟩
  have z_:=bw1_ (kb_ a5) th_ hb
  clear a5 HB
  obtain ⟨a5,HB⟩:=z_
  (try clear hb)
  refine hK.out _ _ (bc6_ a5.out ⟨((HB.out.cell (World.block_lt_of_cell? w _ ae)).trans ae),((HB.out.cell (World.block_lt_of_cell? w _ ac)).trans ac),((HB.out.cell (World.block_lt_of_cell? w _ bb)).trans bb),((HB.out.cell (World.block_lt_of_cell? w _ ba)).trans ba),((HB.out.cell (World.block_lt_of_cell? w _ bd)).trans bd),((HB.out.cell (World.block_lt_of_cell? w _ bc)).trans bc)⟩) (fun hHeld=>?_)
  clear hK K
  refine nm_ (some 127) ?_
  refine yr_ 6 128 bq_165 HT_ ?_
  refine yr_ 7 129 bq_166 HT_ ?_
  refine yr_ 8 130 bq_167 HT_ ?_
  refine yr_ 9 131 bq_168 HT_ ?_
  refine yr_ 10 132 bq_169 HT_ ?_
  refine yr_ 11 133 bq_170 HT_ ?_
  refine yr_ 13 135 #[T_,T_,T_,T_,T_,T_,T_,T_,T_,T_,T_,T_,F_,T_,F_,F_,F_,F_,F_,F_,F_,F_,F_,F_,F_,F_,F_] HT_ ?_
  refine yr_ 14 136 #[T_,T_,T_,T_,T_,T_,T_,T_,T_,T_,T_,T_,F_,T_,T_,F_,F_,F_,F_,F_,F_,F_,F_,F_,F_,F_,F_] HT_ ?_
  refine yr_ 18 140 #[T_,T_,T_,T_,T_,T_,T_,T_,T_,T_,T_,T_,F_,T_,T_,F_,F_,F_,T_,F_,F_,F_,F_,F_,F_,F_,F_] HT_ ?_
  refine yr_ 20 142 #[T_,T_,T_,T_,T_,T_,T_,T_,T_,T_,T_,T_,F_,T_,T_,F_,F_,F_,T_,F_,T_,F_,F_,F_,F_,F_,F_] HT_ ?_
  refine tr_ 12 134 #[T_,T_,T_,T_,T_,T_,T_,T_,T_,T_,T_,T_,T_,T_,T_,F_,F_,F_,T_,F_,T_,F_,F_,F_,F_,F_,F_] HT_ HW_ hHeld ?_
  refine yr_ 15 137 #[T_,T_,T_,T_,T_,T_,T_,T_,T_,T_,T_,T_,T_,T_,T_,T_,F_,F_,T_,F_,T_,F_,F_,F_,F_,F_,F_] HT_ ?_
  refine yr_ 16 138 #[T_,T_,T_,T_,T_,T_,T_,T_,T_,T_,T_,T_,T_,T_,T_,T_,T_,F_,T_,F_,T_,F_,F_,F_,F_,F_,F_] HT_ ?_
  refine tr_ 17 139 #[T_,T_,T_,T_,T_,T_,T_,T_,T_,T_,T_,T_,T_,T_,T_,T_,T_,T_,T_,F_,T_,F_,F_,F_,F_,F_,F_] HT_ HW_ hHeld ?_
  refine tr_ 19 141 bq_171 HT_ HW_ hHeld ?_
  refine yr_ 21 143 bq_172 HT_ ?_
  refine yr_ 22 144 bq_173 HT_ ?_
  refine tr_ 23 145 bq_174 HT_ HW_ hHeld ?_
  refine yr_ 24 146 bq_175 HT_ ?_
  refine yr_ 25 147 bq_176 HT_ ?_
  refine yr_ 26 148 bq_177 HT_ ?_
  refine done_ (done_of HT_.out kr_) ?_
  go_upto_if 148 with (fail)
  (try clear aa ab)
  (try clear b4 b5)
  (try clear b6 b7)
  have H:=ef.out
  clear ef
  by_cases e1:((Op.bytesLess (((rd_T90 a7 (ji65)).f1).toList) (((rd_T90 a7 a8).f1).toList))=true)
  rotate_left
  ·rw [if_neg e1] at H
   have ax:(Op.bytesLess (((rd_T90 a7 (ji65)).f1).toList) (((rd_T90 a7 a8).f1).toList))=false:=by simpa using e1
   have c71b0q:(Op.bytesLess (((rd_T90 a7 a8).f1).toList) (((rd_T90 a7 (ji65)).f1).toList) || ((((rd_T90 a7 a8).f1).toList) == (((rd_T90 a7 (ji65)).f1).toList)))=true:=by rw [bl_leq,ax];rfl
   clear e1
   (first|rw [ax]|(simp only [i64_w,i32_w];rw [ax])|rw [bl_leq,ax]|rw [bl_gtr,ax]|skip)
   obtain rfl:=oi_ H
   go_wp2
   go_ret
   exact ⟨(by first|rfl|(simp [errW_none,errW_some] <;> rfl)|(simp only [← hji65];first|rfl|(simp [errW_none,errW_some] <;> rfl))|(simp [*,errW_none,errW_some] <;> rfl)),th_⟩
  rw [if_pos e1] at H
  have ax:(Op.bytesLess (((rd_T90 a7 (ji65)).f1).toList) (((rd_T90 a7 a8).f1).toList))=true:=e1
  have c71b0q:(Op.bytesLess (((rd_T90 a7 a8).f1).toList) (((rd_T90 a7 (ji65)).f1).toList) || ((((rd_T90 a7 a8).f1).toList) == (((rd_T90 a7 (ji65)).f1).toList)))=false:=by rw [bl_leq,ax];rfl
  clear e1
  (first|rw [ax]|(simp only [i64_w,i32_w];rw [ax])|rw [bl_leq,ax]|rw [bl_gtr,ax]|skip)
  have H':=m_ H
  clear H
  go_wp2
  go_roundg k2
  case measure=>have:=HJ46.out;have:=d8.out;omega
  case rel=>exact ⟨(wrap64 (a8+1)),tq_3,H',⟨(by have:=HJ46.out;have:=d8.out;omega)⟩,⟨(kb_ a5)⟩,⟨th_⟩⟩
 rw [if_pos cx] at H
 have ce:=qa_ cx
 have cf:=qb_ cx
 clear cx
 have dx:=m_ H
 clear H
 go_upto_region 7 with (fail)
 go_cut [60] (fun v60 wc=>∃ (kq:Nat) (bm:Bool),v60=.bool bm∧Aside0 (spec_InodeOk.j0 kq bm ag a9 ai ah l0_4 a7=some r)∧Aside0 (kq≤k)∧Aside0 (wc.heap[a6]?=some (.cells #[.int .i64 ag,.int .i64 a9,.int .i64 ai,.string ah,(.slice av l0_4.length al),(.slice aw a7.length am)] 62 (0,0)))∧Aside0 (Below w.heap.size w wc))
 case first =>
  have H:=dx.out
  clear dx
  obtain ⟨f7,ev,H⟩:=bd_ H
  by_cases d5:f7=true
  rotate_left
  ·replace d5:=Bool.eq_false_iff.mpr d5
   subst d5
   rw [if_neg nf_] at H
   have H':=m_ H
   clear H
   try go_wp2
   (try (rw [drewN_self w4];generalize hq_:World.drewN w4 _=w4;have z_:=q_ (⟨(by rw [← hq_];exact (kb_ a5))⟩:Aside0 (w4.heap[a6]?=some (.cells #[.int .i64 ag,.int .i64 a9,.int .i64 ai,.string ah,.slice av l0_4.length al,.slice aw a7.length am] 62 (0,0)))) <| (⟨tq_74⟩:Aside0 (Below w.heap.size w w4));clear a5 HB hq_;obtain ⟨a5,HB⟩:=z_))
   have z_:=dw1_ a5 HB
   clear a5 HB
   obtain ⟨a5,HB⟩:=z_
   refine start_ (n:=25) (S:=fun w'=>w'.cell? ⟨a6,0,none⟩=some (.int .i64 ag)∧w'.cell? ⟨a6,1,none⟩=some (.int .i64 a9)∧w'.cell? ⟨a6,2,none⟩=some (.int .i64 ai)∧w'.cell? ⟨a6,3,none⟩=some (.string ah)∧w'.cell? ⟨a6,4,none⟩=some (.slice av l0_4.length al)∧w'.cell? ⟨a6,5,none⟩=some (.slice aw a7.length am)) (ds:=[]) bq_73 kr_ rfl rfl (bk6_ a5.out) (fun hHeld=>?_);refine with_tabW spec_InodeOk.tab7 spec_InodeOk.bits7 (fun HT_ HW_=>?_)
   generalize w4.drew=g9 at a5 HB hHeld ⊢
   refine yr_ 0 36 bq_74 HT_ ?_
   refine tr_ 1 37 bq_75 HT_ HW_ hHeld ?_
   refine one_ (i:=2) (N:=some 38) bq_76 rfl rfl (one_of HT_.out kr_) (by decide) (fun K hK=>?_)
   refine goes_ Tryz.func42 kr_ rfl #[.int .i64 a9,.int .i64 0,.int .i64 128] (by rfl) rfl rfl tq_0 ?_
   with_reducible refine (spec_l01In.calls a9 0 128 false _ ev.out).mono ?_
   rintro e w' ⟨rfl,⟨nd,rfl⟩⟩
   refine ⟨_,rfl,?_⟩
   refine hK.out _ _ (bk6_ a5.out) (fun hHeld=>?_)
   clear hK K
   refine nm_ (some 38) ?_
   refine yr_ 3 39 bq_77 HT_ ?_
   refine yr_ 4 40 bq_78 HT_ ?_
   refine ur_ 5 41 bq_79 HT_ ?_
   refine ur_ 6 42 bq_80 HT_ ?_
   refine ur_ 7 43 bq_81 HT_ ?_
   refine ur_ 8 44 bq_82 HT_ ?_
   refine yr_ 9 45 bq_83 HT_ ?_
   refine yr_ 10 46 bq_84 HT_ ?_
   refine ur_ 11 47 bq_85 HT_ ?_
   refine ur_ 12 48 bq_240 HT_ ?_
   refine ur_ 13 49 bq_241 HT_ ?_
   refine ur_ 14 50 bq_86 HT_ ?_
   refine ur_ 15 51 bq_87 HT_ ?_
   refine ur_ 16 52 bq_88 HT_ ?_
   refine ur_ 17 53 bq_89 HT_ ?_
   refine yr_ 18 54 bq_90 HT_ ?_
   refine yr_ 19 55 bq_91 HT_ ?_
   refine ur_ 20 56 bq_92 HT_ ?_
   refine ur_ 21 57 bq_93 HT_ ?_
   refine ur_ 22 58 bq_94 HT_ ?_
   refine ur_ 23 59 bq_95 HT_ ?_
   refine yr_ 24 60 bq_96 HT_ ?_
   refine done_ (done_of HT_.out kr_) ?_
   try go_wp2
   go_meet
   case rel=>exact ⟨_,(true),tq_3,H',⟨tq_12⟩,⟨(kb_ a5)⟩,⟨th_⟩⟩
  subst d5
  rw [if_pos rfl] at H
  by_cases cb:(ah.size:Int)=8
  rotate_left
  ·rw [if_neg cb] at H
   have b2:=qc_ cb
   have bi:=qd_ cb
   (first|rw [b2]|(simp only [i64_w,i32_w];rw [b2])|skip)
   have H':=m_ H
   clear H
   try go_wp2
   (try (rw [drewN_self w4];generalize hq_:World.drewN w4 _=w4;have z_:=q_ (⟨(by rw [← hq_];exact (kb_ a5))⟩:Aside0 (w4.heap[a6]?=some (.cells #[.int .i64 ag,.int .i64 a9,.int .i64 ai,.string ah,.slice av l0_4.length al,.slice aw a7.length am] 62 (0,0)))) <| (⟨tq_74⟩:Aside0 (Below w.heap.size w w4));clear a5 HB hq_;obtain ⟨a5,HB⟩:=z_))
   have z_:=dw1_ a5 HB
   clear a5 HB
   obtain ⟨a5,HB⟩:=z_
   refine start_ (n:=25) (S:=fun w'=>w'.cell? ⟨a6,0,none⟩=some (.int .i64 ag)∧w'.cell? ⟨a6,1,none⟩=some (.int .i64 a9)∧w'.cell? ⟨a6,2,none⟩=some (.int .i64 ai)∧w'.cell? ⟨a6,3,none⟩=some (.string ah)∧w'.cell? ⟨a6,4,none⟩=some (.slice av l0_4.length al)∧w'.cell? ⟨a6,5,none⟩=some (.slice aw a7.length am)) (ds:=[]) bq_73 kr_ rfl rfl (bk6_ a5.out) (fun hHeld=>?_);refine with_tabW spec_InodeOk.tab7 spec_InodeOk.bits7 (fun HT_ HW_=>?_)
   generalize w4.drew=ga at a5 HB hHeld ⊢
   refine yr_ 0 36 bq_74 HT_ ?_
   refine tr_ 1 37 bq_75 HT_ HW_ hHeld ?_
   refine one_ (i:=2) (N:=some 38) bq_76 rfl rfl (one_of HT_.out kr_) (by decide) (fun K hK=>?_)
   refine goes_ Tryz.func42 kr_ rfl #[.int .i64 a9,.int .i64 0,.int .i64 128] (by rfl) rfl rfl tq_0 ?_
   with_reducible refine (spec_l01In.calls a9 0 128 true _ ev.out).mono ?_
   rintro e w' ⟨rfl,⟨nd,rfl⟩⟩
   refine ⟨_,rfl,?_⟩
   refine hK.out _ _ (bk6_ a5.out) (fun hHeld=>?_)
   clear hK K
   refine nm_ (some 38) ?_
   refine yr_ 3 39 bq_77 HT_ ?_
   refine yr_ 4 40 bq_78 HT_ ?_
   refine yr_ 5 41 bq_79 HT_ ?_
   refine tr_ 6 42 bq_80 HT_ HW_ hHeld ?_
   refine yr_ 7 43 bq_81 HT_ ?_
   refine yr_ 8 44 bq_82 HT_ ?_
   refine yr_ 9 45 bq_83 HT_ ?_
   refine yr_ 10 46 bq_84 HT_ ?_
   refine ur_ 11 47 bq_85 HT_ ?_
   refine ur_ 12 48 bq_240 HT_ ?_
   refine ur_ 13 49 bq_241 HT_ ?_
   refine ur_ 14 50 bq_86 HT_ ?_
   refine ur_ 15 51 bq_87 HT_ ?_
   refine ur_ 16 52 bq_88 HT_ ?_
   refine ur_ 17 53 bq_89 HT_ ?_
   refine yr_ 18 54 bq_90 HT_ ?_
   refine yr_ 19 55 bq_91 HT_ ?_
   refine ur_ 20 56 bq_92 HT_ ?_
   refine ur_ 21 57 bq_93 HT_ ?_
   refine ur_ 22 58 bq_94 HT_ ?_
   refine ur_ 23 59 bq_95 HT_ ?_
   refine yr_ 24 60 bq_96 HT_ ?_
   refine done_ (done_of HT_.out kr_) ?_
   try go_wp2
   go_meet
   case rel=>exact ⟨_,(true),tq_3,H',⟨tq_12⟩,⟨(kb_ a5)⟩,⟨th_⟩⟩
  rw [if_pos cb] at H
  have b2:=qa_ cb
  have bi:=qb_ cb
  clear cb
  (first|rw [b2]|(simp only [i64_w,i32_w];rw [b2])|skip)
  obtain ⟨dy,fo,H⟩:=bd_ H
  by_cases cc:(l0_4.length:Int)=dy
  rotate_left
  ·rw [if_neg cc] at H
   have bj:=qc_ cc
   have bl:=qd_ cc
   have H':=m_ H
   clear H
   try go_wp2
   (try (rw [drewN_self w4];generalize hq_:World.drewN w4 _=w4;have z_:=q_ (⟨(by rw [← hq_];exact (kb_ a5))⟩:Aside0 (w4.heap[a6]?=some (.cells #[.int .i64 ag,.int .i64 a9,.int .i64 ai,.string ah,.slice av l0_4.length al,.slice aw a7.length am] 62 (0,0)))) <| (⟨tq_74⟩:Aside0 (Below w.heap.size w w4));clear a5 HB hq_;obtain ⟨a5,HB⟩:=z_))
   have z_:=dw1_ a5 HB
   clear a5 HB
   obtain ⟨a5,HB⟩:=z_
   refine start_ (n:=25) (S:=fun w'=>w'.cell? ⟨a6,0,none⟩=some (.int .i64 ag)∧w'.cell? ⟨a6,1,none⟩=some (.int .i64 a9)∧w'.cell? ⟨a6,2,none⟩=some (.int .i64 ai)∧w'.cell? ⟨a6,3,none⟩=some (.string ah)∧w'.cell? ⟨a6,4,none⟩=some (.slice av l0_4.length al)∧w'.cell? ⟨a6,5,none⟩=some (.slice aw a7.length am)) (ds:=[]) bq_73 kr_ rfl rfl (bk6_ a5.out) (fun hHeld=>?_);refine with_tabW spec_InodeOk.tab7 spec_InodeOk.bits7 (fun HT_ HW_=>?_)
   generalize w4.drew=gb at a5 HB hHeld ⊢
   refine yr_ 0 36 bq_74 HT_ ?_
   refine tr_ 1 37 bq_75 HT_ HW_ hHeld ?_
   refine one_ (i:=2) (N:=some 38) bq_76 rfl rfl (one_of HT_.out kr_) (by decide) (fun K hK=>?_)
   refine goes_ Tryz.func42 kr_ rfl #[.int .i64 a9,.int .i64 0,.int .i64 128] (by rfl) rfl rfl tq_0 ?_
   with_reducible refine (spec_l01In.calls a9 0 128 true _ ev.out).mono ?_
   rintro e w' ⟨rfl,⟨nd,rfl⟩⟩
   refine ⟨_,rfl,?_⟩
   refine hK.out _ _ (bk6_ a5.out) (fun hHeld=>?_)
   clear hK K
   refine nm_ (some 38) ?_
   refine yr_ 3 39 bq_77 HT_ ?_
   refine yr_ 4 40 bq_78 HT_ ?_
   refine yr_ 5 41 bq_79 HT_ ?_
   refine tr_ 6 42 bq_80 HT_ HW_ hHeld ?_
   refine yr_ 7 43 bq_81 HT_ ?_
   refine yr_ 8 44 bq_82 HT_ ?_
   refine yr_ 9 45 bq_83 HT_ ?_
   refine yr_ 10 46 bq_84 HT_ ?_
   refine yr_ 11 47 bq_85 HT_ ?_
   refine yr_ 14 50 bq_242 HT_ ?_
   refine tr_ 12 48 bq_243 HT_ HW_ hHeld ?_
   refine yr_ 13 49 bq_86 HT_ ?_
   refine tr_ 15 51 bq_87 HT_ HW_ hHeld ?_
   refine one_ (i:=16) (N:=some 52) bq_88 rfl rfl (one_of HT_.out kr_) (by decide) (fun K hK=>?_)
   refine goes_ Tryz.func97 kr_ rfl #[.int .i64 a9] (by rfl) rfl rfl tq_0 ?_
   with_reducible refine (spec_PagesFor.calls a9 dy _ fo.out).mono ?_
   rintro e w' ⟨rfl,⟨nd,rfl⟩⟩
   refine ⟨_,rfl,?_⟩
   refine hK.out _ _ (bk6_ a5.out) (fun hHeld=>?_)
   clear hK K
   refine nm_ (some 52) ?_
   refine yr_ 17 53 bq_89 HT_ ?_
   refine yr_ 18 54 bq_90 HT_ ?_
   refine yr_ 19 55 bq_91 HT_ ?_
   refine ur_ 20 56 bq_92 HT_ ?_
   refine ur_ 21 57 bq_93 HT_ ?_
   refine ur_ 22 58 bq_94 HT_ ?_
   refine ur_ 23 59 bq_95 HT_ ?_
   refine yr_ 24 60 bq_96 HT_ ?_
   refine done_ (done_of HT_.out kr_) ?_
   try go_wp2
   go_meet
   case rel=>exact ⟨_,(true),tq_3,H',⟨tq_12⟩,⟨(kb_ a5)⟩,⟨th_⟩⟩
  rw [if_pos cc] at H
  have bj:=qa_ cc
  have bl:=qb_ cc
  clear cc
  have H':=m_ H
  clear H
  try go_wp2
  (try (rw [drewN_self w4];generalize hq_:World.drewN w4 _=w4;have z_:=q_ (⟨(by rw [← hq_];exact (kb_ a5))⟩:Aside0 (w4.heap[a6]?=some (.cells #[.int .i64 ag,.int .i64 a9,.int .i64 ai,.string ah,.slice av l0_4.length al,.slice aw a7.length am] 62 (0,0)))) <| (⟨tq_74⟩:Aside0 (Below w.heap.size w w4));clear a5 HB hq_;obtain ⟨a5,HB⟩:=z_))
  have z_:=dw1_ a5 HB
  clear a5 HB
  obtain ⟨a5,HB⟩:=z_
  refine start_ (n:=25) (S:=fun w'=>w'.cell? ⟨a6,0,none⟩=some (.int .i64 ag)∧w'.cell? ⟨a6,1,none⟩=some (.int .i64 a9)∧w'.cell? ⟨a6,2,none⟩=some (.int .i64 ai)∧w'.cell? ⟨a6,3,none⟩=some (.string ah)∧w'.cell? ⟨a6,4,none⟩=some (.slice av l0_4.length al)∧w'.cell? ⟨a6,5,none⟩=some (.slice aw a7.length am)) (ds:=[]) bq_73 kr_ rfl rfl (bk6_ a5.out) (fun hHeld=>?_);refine with_tabW spec_InodeOk.tab7 spec_InodeOk.bits7 (fun HT_ HW_=>?_)
  generalize w4.drew=gc at a5 HB hHeld ⊢
  refine yr_ 0 36 bq_74 HT_ ?_
  refine tr_ 1 37 bq_75 HT_ HW_ hHeld ?_
  refine one_ (i:=2) (N:=some 38) bq_76 rfl rfl (one_of HT_.out kr_) (by decide) (fun K hK=>?_)
  refine goes_ Tryz.func42 kr_ rfl #[.int .i64 a9,.int .i64 0,.int .i64 128] (by rfl) rfl rfl tq_0 ?_
  with_reducible refine (spec_l01In.calls a9 0 128 true _ ev.out).mono ?_
  rintro e w' ⟨rfl,⟨nd,rfl⟩⟩
  refine ⟨_,rfl,?_⟩
  refine hK.out _ _ (bk6_ a5.out) (fun hHeld=>?_)
  clear hK K
  refine nm_ (some 38) ?_
  refine yr_ 3 39 bq_77 HT_ ?_
  refine yr_ 4 40 bq_78 HT_ ?_
  refine yr_ 5 41 bq_79 HT_ ?_
  refine tr_ 6 42 bq_80 HT_ HW_ hHeld ?_
  refine yr_ 7 43 bq_81 HT_ ?_
  refine yr_ 8 44 bq_82 HT_ ?_
  refine yr_ 9 45 bq_83 HT_ ?_
  refine yr_ 10 46 bq_84 HT_ ?_
  refine yr_ 11 47 bq_85 HT_ ?_
  refine yr_ 14 50 bq_242 HT_ ?_
  refine tr_ 12 48 bq_243 HT_ HW_ hHeld ?_
  refine yr_ 13 49 bq_86 HT_ ?_
  refine tr_ 15 51 bq_87 HT_ HW_ hHeld ?_
  refine one_ (i:=16) (N:=some 52) bq_88 rfl rfl (one_of HT_.out kr_) (by decide) (fun K hK=>?_)
  refine goes_ Tryz.func97 kr_ rfl #[.int .i64 a9] (by rfl) rfl rfl tq_0 ?_
  with_reducible refine (spec_PagesFor.calls a9 dy _ fo.out).mono ?_
  rintro e w' ⟨rfl,⟨nd,rfl⟩⟩
  refine ⟨_,rfl,?_⟩
  refine hK.out _ _ (bk6_ a5.out) (fun hHeld=>?_)
  clear hK K
  refine nm_ (some 52) ?_
  refine yr_ 17 53 bq_89 HT_ ?_
  refine yr_ 18 54 bq_90 HT_ ?_
  refine yr_ 19 55 bq_91 HT_ ?_
  refine yr_ 20 56 bq_92 HT_ ?_
  refine tr_ 21 57 bq_93 HT_ HW_ hHeld ?_
  refine yr_ 22 58 bq_94 HT_ ?_
  refine yr_ 23 59 bq_95 HT_ ?_
  refine yr_ 24 60 bq_96 HT_ ?_
  refine done_ (done_of HT_.out kr_) ?_
  try go_wp2
  go_meet
  case rel=>exact ⟨_,(decide ((a7.length:Int) > 0)),tq_3,H',⟨tq_12⟩,⟨(kb_ a5)⟩,⟨th_⟩⟩
 case rest =>
 clear dx
 try clear c2;try clear p2;try clear c4;try clear c9;try clear d5;try clear cb;try clear b2;try clear bi;try clear cc;try clear bj;try clear bl
 obtain ⟨kq,bm,rfl,HA,HJ17,a5,HB⟩:=hcut
 cases kq with
 | zero=>exact absurd HA.out (by simp [spec_InodeOk.j0])
 | succ kj17 =>
 have H:=HA.out
 clear HA
 simp only [spec_InodeOk.j0] at H
 by_cases dh:bm=true
 ·subst dh
  rw [if_pos rfl] at H
  obtain rfl:=oi_ H
  go_wp2
  go_ret
  exact ⟨tq_1,th_⟩
 replace dh:=Bool.eq_false_iff.mpr dh
 subst dh
 rw [if_neg nf_] at H
 have H':=m_ H
 clear H
 go_wp2
 go_loopg [3] kj17 (fun kq v3 w'=>∃ (aj:Int),v3=.int .i64 aj∧Aside0 (spec_InodeOk.l0 kq aj ag a9 ai ah l0_4 a7=some r)∧Aside0 (kq≤kj17)∧Aside0 (w'.heap[a6]?=some (.cells #[.int .i64 ag,.int .i64 a9,.int .i64 ai,.string ah,(.slice av l0_4.length al),(.slice aw a7.length am)] 62 (0,0)))∧Aside0 (Below w.heap.size w w'))
 case atStart=>exact ⟨(0),tq_3,H',⟨Nat.le_refl _⟩,⟨(kb_ a5)⟩,⟨th_⟩⟩
 case round =>
 clear H'
 try clear c2;try clear p2;try clear c4;try clear c9;try clear d5;try clear cb;try clear b2;try clear bi;try clear cc;try clear bj;try clear bl;try clear dh;try clear p2
 obtain ⟨aj,rfl,HA,d8,a5,HB⟩:=hrel
 cases gk with
 | zero=>exact absurd HA.out (by simp [spec_InodeOk.l0])
 | succ k2 =>
 have H:=HA.out
 clear HA
 simp only [spec_InodeOk.l0] at H
 have ej:=m_ H
 clear H
 have bo:=bb6_ a5.out
 go_upto_if 65 with (fail)
 (try clear bo)
 have H:=ej.out
 clear ej
 by_cases d6:aj < (l0_4.length:Int)
 rotate_left
 ·rw [if_neg d6] at H
  have b8:=df_ d6
  clear d6
  (first|rw [b8]|(simp only [i64_w,i32_w];rw [b8])|skip)
  obtain rfl:=oi_ H
  go_wp2
  go_ret
  exact ⟨tq_1,th_⟩
 rw [if_pos d6] at H
 have b8:=de_ d6
 clear d6
 (first|rw [b8]|(simp only [i64_w,i32_w];rw [b8])|skip)
 obtain ⟨e9,H⟩:=fc_ H
 have cn:=de_ e9
 clear e9
 obtain ⟨da,fw,H⟩:=bd_ H
 have ek:=m_ H
 clear H
 have bp:=bb6_ a5.out
 have bz:0≤(aj:Int):=od_ tq_2
 have ca:aj < (l0_4.length:Int):=od_ tq_2
 obtain ⟨ak,f8,az,b0,b1⟩:=at_T86 HR0_4.out aj bz ca
 cases f8
 replace az:=hx_ HB.out az
 replace b0:=hx_ HB.out b0
 replace b1:=hx_ HB.out b1
 replace bz:=eq_true bz
 replace ca:=eq_true ca
 go_upto_if 74 with (first|((with_reducible refine gate_callee (f:=76) rfl ?_);refine goesL_ (some 73) rfl rfl Tryz.func76 kr_ rfl #[.agg #[.int .i64 ((rd_T86 l0_4 aj).f0),.int .i64 ((rd_T86 l0_4 aj).f1),.string ((rd_T86 l0_4 aj).f2)]] rfl tq_0 ?_;(with_reducible refine (spec_RecWord.calls k2 ((rd_T86 l0_4 aj).f0) ((rd_T86 l0_4 aj).f1) ((rd_T86 l0_4 aj).f2) da _ fw.out).mono ?_);rintro e gd ⟨rfl,hb⟩;refine ⟨_,rfl,?_⟩;have z_:=bw1_ (kb_ a5) th_ hb;clear a5 HB;obtain ⟨a5,HB⟩:=z_;(try clear hb)))
 (try simp only [Act.put,List.setIfInBounds_toArray,List.set_cons_zero,List.set_cons_succ])
 (try clear bp)
 (try clear az b0 b1)
 have H:=ek.out
 clear ek
 by_cases cw:da.toList=([]:List UInt8)
 ·rw [if_pos cw] at H
  have b3:=qa_ cw
  have bq:=qb_ cw
  clear cw
  (first|rw [b3]|(simp only [i64_w,i32_w];rw [b3])|rw [show (da.toList).isEmpty=true from by simpa using b3]|skip)
  obtain rfl:=oi_ H
  go_wp2
  go_ret
  exact ⟨tq_1,th_⟩
 rw [if_neg cw] at H
 have b3:=qc_ cw
 have bq:=qd_ cw
 (first|rw [b3]|(simp only [i64_w,i32_w];rw [b3])|rw [show (da.toList).isEmpty=false from by simpa using b3]|skip)
 have H':=m_ H
 clear H
 go_wp2
 go_loopg [4] k2 (fun kq v4 w'=>∃ (ay:Int),v4=.int .i64 ay∧Aside0 (spec_InodeOk.l1 kq aj ay ag a9 ai ah l0_4 a7=some r)∧Aside0 (kq≤k2)∧Aside0 (w'.heap[a6]?=some (.cells #[.int .i64 ag,.int .i64 a9,.int .i64 ai,.string ah,(.slice (some ak) l0_4.length al),(.slice aw a7.length am)] 62 (0,0)))∧Aside0 (Below w.heap.size w w'))
 case atStart=>exact ⟨(0),tq_3,H',⟨Nat.le_refl _⟩,⟨(kb_ a5)⟩,⟨th_⟩⟩
 case round =>
 clear H'
 try clear c2;try clear p2;try clear q2;try clear hx2;try clear c3;try clear c4;try clear c7;try clear c9;try clear d5;try clear cb;try clear b2;try clear bi;try clear cc;try clear bj;try clear bl;try clear eo;try clear ep;try clear hx25;try clear dh;try clear d6;try clear b8;try clear e9;try clear cn;try clear cw;try clear b3;try clear bq;try clear bo;try clear bp;try clear bo;try clear bp;try clear az;try clear b0;try clear b1;try clear p2;try clear bz;try clear ca
 obtain ⟨ay,rfl,HA,HK3,a5,HB⟩:=hrel
 cases gk with
 | zero=>exact absurd HA.out (by simp [spec_InodeOk.l1])
 | succ k3 =>
 have H:=HA.out
 clear HA
 simp only [spec_InodeOk.l1] at H
 by_cases di:ay < aj
 rotate_left
 ·rw [if_neg di] at H
  have co:=df_ di
  clear di
  have H':=m_ H
  clear H
  go_wp2
  go_roundg k3
  case measure=>have:=HJ17.out;have:=d8.out;have:=HK3.out;omega
  case rel=>exact ⟨(wrap64 (aj+1)),tq_3,H',⟨(by have:=HJ17.out;have:=d8.out;have:=HK3.out;omega)⟩,⟨(kb_ a5)⟩,⟨th_⟩⟩
 rw [if_pos di] at H
 have co:=de_ di
 clear di
 obtain ⟨eq,H⟩:=fc_ H
 have dj:=de_ eq
 clear eq
 obtain ⟨er,H⟩:=fc_ H
 have dk:=de_ er
 clear er
 obtain ⟨es,H⟩:=fc_ H
 have dl:=de_ es
 clear es
 obtain ⟨et,H⟩:=fc_ H
 have dm:=de_ et
 clear et
 have el:=m_ H
 clear H
 try go_wp2
 have z_:=dw1_ a5 HB
 clear a5 HB
 obtain ⟨a5,HB⟩:=z_
 have cq:0≤(ay:Int):=od_ tq_2
 have ct:ay < (l0_4.length:Int):=od_ tq_2
 obtain ⟨em,f9,an,ao,ap⟩:=at_T86 HR0_4.out ay cq ct
 have br:=ap
 have bs:=ao
 have bu:=an
 obtain rfl:ak=em:=(by injection f9)
 replace an:=hx_ HB.out an
 replace ao:=hx_ HB.out ao
 replace ap:=hx_ HB.out ap
 replace cq:=eq_true cq
 replace ct:=eq_true ct
 have cr:0≤(aj:Int):=od_ tq_2
 have cu:aj < (l0_4.length:Int):=od_ tq_2
 obtain ⟨en,fa,aq,ar,au⟩:=at_T86 HR0_4.out aj cr cu
 have bv:=au
 have bw:=ar
 have bx:=aq
 obtain rfl:ak=en:=(by injection fa)
 replace aq:=hx_ HB.out aq
 replace ar:=hx_ HB.out ar
 replace au:=hx_ HB.out au
 replace cr:=eq_true cr
 replace cu:=eq_true cu
 refine start_ (n:=13) (S:=fun w'=>w'.cell? ⟨a6,0,none⟩=some (.int .i64 ag)∧w'.cell? ⟨a6,1,none⟩=some (.int .i64 a9)∧w'.cell? ⟨a6,2,none⟩=some (.int .i64 ai)∧w'.cell? ⟨a6,3,none⟩=some (.string ah)∧w'.cell? ⟨a6,4,none⟩=some (.slice (some ak) l0_4.length al)∧w'.cell? ⟨a6,5,none⟩=some (.slice aw a7.length am)∧w'.cell? (ak.add ((ay).toNat * 3))=some (.int .i64 ((rd_T86 l0_4 ay).f0))∧w'.cell? ⟨(ak.add ((ay).toNat * 3)).block,(ak.add ((ay).toNat * 3)).off+1,none⟩=some (.int .i64 ((rd_T86 l0_4 ay).f1))∧w'.cell? ⟨(ak.add ((ay).toNat * 3)).block,(ak.add ((ay).toNat * 3)).off+2,none⟩=some (.string ((rd_T86 l0_4 ay).f2))∧w'.cell? (ak.add ((aj).toNat * 3))=some (.int .i64 ((rd_T86 l0_4 aj).f0))∧w'.cell? ⟨(ak.add ((aj).toNat * 3)).block,(ak.add ((aj).toNat * 3)).off+1,none⟩=some (.int .i64 ((rd_T86 l0_4 aj).f1))∧w'.cell? ⟨(ak.add ((aj).toNat * 3)).block,(ak.add ((aj).toNat * 3)).off+2,none⟩=some (.string ((rd_T86 l0_4 aj).f2))) (ds:=[]) bq_30 kr_ rfl rfl (bc6_ a5.out ⟨((HB.out.cell (World.block_lt_of_cell? w _ bu)).trans bu),((HB.out.cell (World.block_lt_of_cell? w _ bs)).trans bs),((HB.out.cell (World.block_lt_of_cell? w _ br)).trans br),((HB.out.cell (World.block_lt_of_cell? w _ bx)).trans bx),((HB.out.cell (World.block_lt_of_cell? w _ bw)).trans bw),((HB.out.cell (World.block_lt_of_cell? w _ bv)).trans bv)⟩) (fun hHeld=>?_);refine with_tabW spec_InodeOk.tab17 spec_InodeOk.bits17 (fun HT_ HW_=>?_)
 generalize wr.drew=ge at a5 HB an ao ap aq ar au hHeld ⊢
 refine yr_ 0 80 #[T_,F_,F_,F_,F_,F_,F_,F_,F_,F_,F_,F_,F_] HT_ ?_
 refine yr_ 2 82 #[T_,F_,T_,F_,F_,F_,F_,F_,F_,F_,F_,F_,F_] HT_ ?_
 refine yr_ 6 86 #[T_,F_,T_,F_,F_,F_,T_,F_,F_,F_,F_,F_,F_] HT_ ?_
 refine yr_ 8 88 #[T_,F_,T_,F_,F_,F_,T_,F_,T_,F_,F_,F_,F_] HT_ ?_
 refine tr_ 1 81 #[T_,T_,T_,F_,F_,F_,T_,F_,T_,F_,F_,F_,F_] HT_ HW_ hHeld ?_
 refine yr_ 3 83 #[T_,T_,T_,T_,F_,F_,T_,F_,T_,F_,F_,F_,F_] HT_ ?_
 refine yr_ 4 84 #[T_,T_,T_,T_,T_,F_,T_,F_,T_,F_,F_,F_,F_] HT_ ?_
 refine tr_ 5 85 #[T_,T_,T_,T_,T_,T_,T_,F_,T_,F_,F_,F_,F_] HT_ HW_ hHeld ?_
 refine tr_ 7 87 bq_31 HT_ HW_ hHeld ?_
 refine yr_ 9 89 bq_32 HT_ ?_
 refine yr_ 10 90 bq_0 HT_ ?_
 refine tr_ 11 91 bq_33 HT_ HW_ hHeld ?_
 refine yr_ 12 92 bq_34 HT_ ?_
 refine done_ (done_of HT_.out kr_) ?_
 go_upto_if 92 with (fail)
 (try clear an ao ap)
 (try clear aq ar au)
 have H:=el.out
 clear el
 by_cases d7:((rd_T86 l0_4 ay).f0)=((rd_T86 l0_4 aj).f0)
 ·rw [if_pos d7] at H
  have bf:=qa_ d7
  have cp:=qb_ d7
  clear d7
  (first|rw [bf]|(simp only [i64_w,i32_w];rw [bf])|skip)
  obtain rfl:=oi_ H
  go_wp2
  go_ret
  exact ⟨tq_1,th_⟩
 rw [if_neg d7] at H
 have bf:=qc_ d7
 have cp:=qd_ d7
 (first|rw [bf]|(simp only [i64_w,i32_w];rw [bf])|skip)
 have H':=m_ H
 clear H
 go_wp2
 go_roundg k3
 case measure=>have:=HJ17.out;have:=d8.out;have:=HK3.out;omega
 case rel=>exact ⟨(wrap64 (ay+1)),tq_3,H',⟨(by have:=HJ17.out;have:=d8.out;have:=HK3.out;omega)⟩,⟨(kb_ a5)⟩,⟨th_⟩⟩

mutual
def spec_InodeWords.l0:Nat→List ByteArray→Int→Int→Int→Int→ByteArray→List (S86)→List (S90)→Option (List ByteArray)
 | 0,_,_,_,_,_,_,_,_=>none
 | k+1,x3,x4,a6,a7,a8,a9,a5,aa=>if x4 < (a5.length:Int) then (if 0≤x4 then ((spec_RecWord.f k ((rd_T86 a5 x4).f0) ((rd_T86 a5 x4).f1) ((rd_T86 a5 x4).f2)).bind fun ab=>(if x3.length < 8796093022208 then (spec_InodeWords.l0 k (x3++[ab]) (wrap64 (x4+1)) a6 a7 a8 a9 a5 aa) else (none))) else (none)) else (spec_InodeWords.l1 k x3 0 a6 a7 a8 a9 a5 aa)
def spec_InodeWords.l1:Nat→List ByteArray→Int→Int→Int→Int→ByteArray→List (S86)→List (S90)→Option (List ByteArray)
 | 0,_,_,_,_,_,_,_,_=>none
 | k+1,x3,x5,a6,a7,a8,a9,aa,a5=>if x5 < (a5.length:Int) then (if 0≤x5 then ((spec_EntryWord.f k ((rd_T90 a5 x5).f0) ((rd_T90 a5 x5).f1)).bind fun ab=>(if x3.length < 8796093022208 then (spec_InodeWords.l1 k (x3++[ab]) (wrap64 (x5+1)) a6 a7 a8 a9 aa a5) else (none))) else (none)) else (spec_InodeWords.l2 k x3)
def spec_InodeWords.l2:Nat→List ByteArray→Option (List ByteArray)
 | 0,_=>none
 | k+1,x3=>if (x3.length:Int) < 8 then ((spec_ZeroText.f k 8).bind fun a5=>(if x3.length < 8796093022208 then (spec_InodeWords.l2 k (x3++[a5])) else (none))) else (some x3)
end
def spec_InodeWords.f (k:Nat) (a5:Int) (a6:Int) (a7:Int) (a8:ByteArray) (ab:List (S86)) (ac:List (S90)):Option (List ByteArray):=(spec_InodeOk.f k a5 a6 a7 a8 ab ac).bind fun af=>(if af=true then ((spec_NumText.f k a5 1).bind fun a9=>((spec_NumText.f k a6 2).bind fun aa=>(if a9.size+aa.size≤9223372036854775807 then ((spec_NumText.f k a7 2).bind fun ae=>(if (a9++aa).size+ae.size≤9223372036854775807 then ((spec_WordText.f k ((a9++aa)++ae)).bind fun ag=>((spec_WordText.f k a8).bind fun ah=>(spec_InodeWords.l0 k (([ag,ah]:List ByteArray)) 0 a5 a6 a7 a8 ab ac))) else (none))) else (none)))) else (some (([]:List ByteArray))))
def spec_InodeWords.T3:Bool × List (List Nat × List Nat):=(true,[([],[]),([0],[0]),([1],[1]),([],[]),([3],[3]),([4,2],[4]),([2,5],[2,5]),([],[]),([7],[7]),([8,5],[8]),([6,9],[6,9]),([10,9],[10]),([],[]),([12],[12]),([13,11],[13]),([11,14],[11,14]),([15,14,0,1,2,3,4,5,6,7,8,9,10,11,12,13,14,15],[15])])
def spec_InodeWords.B3:List Nat:=[0,1,3,0,8,31,63,0,128,447,1023,2047,0,4096,16383,32767,65535]
theorem spec_InodeWords.tab3:rtab .any (opsOf Tryz.f52 3)=spec_InodeWords.T3:=by kernel_rfl
theorem spec_InodeWords.bits3:waitsOk spec_InodeWords.T3.2 spec_InodeWords.B3=true:=by kernel_rfl
theorem spec_InodeWords.calls (k:Nat) (a8:Int) (a9:Int) (aa:Int) (ab:ByteArray) (am:Option Addr) (aj:Nat) (l0_4:List (S86)) (an:Option Addr) (ak:Nat) (a6:List (S90)) (r:List ByteArray) (w:World) (bn:Kd.C k86 w am l0_4.length l0_4) (bo:l0_4.length≤aj) (bp:Kd.C k90 w an a6.length a6) (bq:a6.length≤ak) (h:spec_InodeWords.f k a8 a9 aa ab l0_4 a6=some r) :
  Calls Tryz.prog 52 #[.agg #[.int .i64 a8,.int .i64 a9,.int .i64 aa,.string ab,.slice am l0_4.length aj,.slice an a6.length ak]] w fun e w'=>∃ v0_:Value,e=.returned (v0_)∧Kd.R Kd.string 9 w' w.heap.size (fun _=>True) v0_ r∧Below w.heap.size w w':=by
 have hu62:=Tryz.underlying62
 have hu86:=Tryz.underlying86
 have hu90:=Tryz.underlying90
 have HR0_4:=m_ bn
 have cd:=m_ bo
 clear bn bo
 have HR0_5:=m_ bp
 have ce:=m_ bq
 clear bp bq
 have HB:=m_ (Below.refl w.heap.size w)
 unfold spec_InodeWords.f at h
 have H:=h
 clear h
 obtain ⟨cf,A2,H⟩:=bd_ H
 have df:=m_ H
 clear H
 go_enter Tryz.func52,Tryz.ntmps52
 go_upto_if 8 with (first|((with_reducible refine gate_dst (N:=1) rfl ?_);refine be_ 1 (cs:=#[.int .i64 a8,.int .i64 a9,.int .i64 aa,.string ab,.slice am l0_4.length aj,.slice an a6.length ak]) 62 ?_;intro ac hg w4 hbox hb;have z_:=bx0_ th_ hb hbox hg;clear HB;obtain ⟨HB,a5,dg,dh⟩:=z_;clear hb hbox hg;have bz:=bb6_ a5.out)|((with_reducible refine gate_callee (f:=78) rfl ?_);refine goesL_ (some 7) rfl rfl Tryz.func78 kr_ rfl #[.agg #[.int .i64 a8,.int .i64 a9,.int .i64 aa,.string ab,.slice am l0_4.length aj,.slice an a6.length ak]] rfl tq_0 ?_;(with_reducible refine (spec_InodeOk.calls k a8 a9 aa ab _ _ l0_4 _ _ a6 cf _ ?side1 ?side2 ?side3 ?side4 A2.out).mono ?_);(case side1=>exact tq_99);(case side2=>exact cd.out);(case side3=>exact tq_98);(case side4=>exact ce.out);rintro e w6 ⟨rfl,hb⟩;refine ⟨_,rfl,?_⟩;have z_:=bw1_ (kb_ a5) th_ hb;clear a5 HB;obtain ⟨a5,HB⟩:=z_;(try clear hb)))
 (try simp only [Act.put,List.setIfInBounds_toArray,List.set_cons_zero,List.set_cons_succ])
 (try clear bz)
 have H:=df.out
 clear df
 by_cases c7:cf=true
 rotate_left
 ·replace c7:=Bool.eq_false_iff.mpr c7
  subst c7
  rw [if_neg nf_] at H
  obtain ⟨d7,b2⟩:∃ y_:List ByteArray,y_=(([]:List ByteArray)):=⟨_,rfl⟩
  replace H:(some d7)=some r:=rh_ b2 H
  have br:=m_ b2
  clear b2
  obtain rfl:=oi_ H
  go_wp2_with (first|((with_reducible refine gate_dst (N:=9) rfl ?_);refine Kd.R_lit Kd.string _ 9 ?hg (N:=9) ?hd (xs:=([]:List ByteArray)) (inner:=[]) (ok:=fun _=>True) (okp:=fun _=>True) ?hr ?hp (fun _ hk=>hk) trivial (Below.refl _ _) (Nat.le_refl _) (by simp) ?_;(case hd=>rfl);(case hg=>rfl);(case hr=>first|(go_simp;done)|(go_simp;rfl));(case hp=>exact (Reps.none _ _));intro v261 dt ho49 hb hg_ hnew_;clear hg_ hnew_;(first|rw [← br.out] at ho49|(simp only [Int.reduceToNat] at ho49;rw [← br.out] at ho49));have z_:=p_ (Kd.R_lower ho49 (below_size th_)) <| bw1_ (kb_ a5) th_ hb;clear a5 HB;obtain ⟨cg,a5,HB⟩:=z_;clear hb ho49))
  go_ret
  exact ⟨_,tq_1,(raR_ cg),th_⟩
 subst c7
 rw [if_pos rfl] at H
 obtain ⟨aw,A8,H⟩:=bd_ H
 obtain ⟨ax,A9,H⟩:=bd_ H
 obtain ⟨ca,H⟩:=fc_ H
 have b3:=eq_true ca
 have b4:=de_ ca
 try have b5:(9223372036854775807 < aw.size+ax.size)=False:=eq_false (Nat.not_lt.2 ca)
 obtain ⟨b6,dl,H⟩:=bd_ H
 obtain ⟨cb,H⟩:=fc_ H
 have b7:=eq_true cb
 have b8:=de_ cb
 try have av:(9223372036854775807 < (aw++ax).size+b6.size)=False:=eq_false (Nat.not_lt.2 cb)
 try have c12b2s:(9223372036854775807 < aw.size+ax.size+b6.size)=False:=by rw [← ByteArray.size_append];exact av
 obtain ⟨ay,dm,H⟩:=bd_ H
 obtain ⟨az,dn,H⟩:=bd_ H
 obtain ⟨ch,b9⟩:∃ y_:List ByteArray,y_=(([ay,az]:List ByteArray)):=⟨_,rfl⟩
 replace H:(spec_InodeWords.l0 k ch 0 a8 a9 aa ab l0_4 a6)=some r:=rh_ b9 H
 have bs:=m_ b9
 clear b9
 have H':=m_ H
 clear H
 try go_wp2
 have z_:=dw1_ a5 HB
 clear a5 HB
 obtain ⟨a5,HB⟩:=z_
 refine start_ (n:=17) (S:=fun w'=>w'.cell? ⟨ac,0,none⟩=some (.int .i64 a8)∧w'.cell? ⟨ac,1,none⟩=some (.int .i64 a9)∧w'.cell? ⟨ac,2,none⟩=some (.int .i64 aa)∧w'.cell? ⟨ac,3,none⟩=some (.string ab)∧w'.cell? ⟨ac,4,none⟩=some (.slice am l0_4.length aj)∧w'.cell? ⟨ac,5,none⟩=some (.slice an a6.length ak)) (ds:=[]) bq_244 kr_ rfl rfl (bk6_ a5.out) (fun hHeld=>?_);refine with_tabW spec_InodeWords.tab3 spec_InodeWords.bits3 (fun HT_ HW_=>?_)
 generalize w6.drew=du at a5 HB hHeld ⊢
 refine yr_ 0 10 bq_245 HT_ ?_
 refine yr_ 3 13 bq_246 HT_ ?_
 refine yr_ 7 17 bq_247 HT_ ?_
 refine yr_ 12 22 bq_248 HT_ ?_
 refine tr_ 1 11 bq_249 HT_ HW_ hHeld ?_
 refine tr_ 4 14 bq_250 HT_ HW_ hHeld ?_
 refine tr_ 8 18 bq_251 HT_ HW_ hHeld ?_
 refine tr_ 13 23 bq_252 HT_ HW_ hHeld ?_
 refine one_ (i:=2) (N:=some 12) bq_253 rfl rfl (one_of HT_.out kr_) (by decide) (fun K hK=>?_)
 refine goes_ Tryz.func48 kr_ rfl #[.int .i64 a8,.int .i64 1] (by rfl) rfl rfl tq_0 ?_
 with_reducible refine (spec_NumText.calls k a8 1 aw _ A8.out).mono ?_
 rintro e dv ⟨rfl,hb⟩
 refine ⟨_,rfl,?_⟩
 have z_:=bw1_ (kb_ a5) th_ hb
 clear a5 HB
 obtain ⟨a5,HB⟩:=z_
 (try clear hb)
 refine hK.out _ _ (bk6_ a5.out) (fun hHeld=>?_)
 clear hK K
 refine nm_ (some 12) ?_
 refine one_ (i:=5) (N:=some 15) bq_254 rfl rfl (one_of HT_.out kr_) (by decide) (fun K hK=>?_)
 refine goes_ Tryz.func48 kr_ rfl #[.int .i64 a9,.int .i64 2] (by rfl) rfl rfl tq_0 ?_
 with_reducible refine (spec_NumText.calls k a9 2 ax _ A9.out).mono ?_
 rintro e dw ⟨rfl,hb⟩
 refine ⟨_,rfl,?_⟩
 have z_:=bw1_ (kb_ a5) th_ hb
 clear a5 HB
 obtain ⟨a5,HB⟩:=z_
 (try clear hb)
 refine hK.out _ _ (bk6_ a5.out) (fun hHeld=>?_)
 clear hK K
 refine nm_ (some 15) ?_
 refine yr_ 6 16 bq_255 HT_ ?_
 refine one_ (i:=9) (N:=some 19) bq_256 rfl rfl (one_of HT_.out kr_) (by decide) (fun K hK=>?_)
 refine goes_ Tryz.func48 kr_ rfl #[.int .i64 aa,.int .i64 2] (by rfl) rfl rfl tq_0 ?_
 with_reducible refine (spec_NumText.calls k aa 2 b6 _ dl.out).mono ?_
 rintro e dx ⟨rfl,hb⟩
 refine ⟨_,rfl,?_⟩
 have z_:=bw1_ (kb_ a5) th_ hb
 clear a5 HB
 obtain ⟨a5,HB⟩:=z_
 (try clear hb)
 refine hK.out _ _ (bk6_ a5.out) (fun hHeld=>?_)
 clear hK K
 refine nm_ (some 19) ?_
 refine yr_ 10 20 bq_257 HT_ ?_
 refine one_ (i:=11) (N:=some 21) bq_258 rfl rfl (one_of HT_.out kr_) (by decide) (fun K hK=>?_)
 refine goes_ Tryz.func47 kr_ rfl #[.string ((aw++ax)++b6)] (by rfl) rfl rfl tq_0 ?_
 with_reducible refine (spec_WordText.calls k ((aw++ax)++b6) ay _ dm.out).mono ?_
 rintro e dy ⟨rfl,hb⟩
 refine ⟨_,rfl,?_⟩
 have z_:=bw1_ (kb_ a5) th_ hb
 clear a5 HB
 obtain ⟨a5,HB⟩:=z_
 (try clear hb)
 refine hK.out _ _ (bk6_ a5.out) (fun hHeld=>?_)
 clear hK K
 refine nm_ (some 21) ?_
 refine one_ (i:=14) (N:=some 24) bq_259 rfl rfl (one_of HT_.out kr_) (by decide) (fun K hK=>?_)
 refine goes_ Tryz.func47 kr_ rfl #[.string ab] (by rfl) rfl rfl tq_0 ?_
 with_reducible refine (spec_WordText.calls k ab az _ dn.out).mono ?_
 rintro e dz ⟨rfl,hb⟩
 refine ⟨_,rfl,?_⟩
 have z_:=bw1_ (kb_ a5) th_ hb
 clear a5 HB
 obtain ⟨a5,HB⟩:=z_
 (try clear hb)
 refine hK.out _ _ (bk6_ a5.out) (fun hHeld=>?_)
 clear hK K
 refine nm_ (some 24) ?_
 refine one_ (i:=15) (N:=some 25) bq_260 rfl rfl (one_of HT_.out kr_) (by decide) (fun K hK=>?_)
 refine Kd.R_lit_step Kd.string _ 9 ?hg (N:=25) ?hd (xs:=([ay,az]:List ByteArray)) (inner:=[.string ay,.string az]) (ok:=fun _=>True) (okp:=fun _=>True) ?hr ?hp (fun _ hk=>hk) trivial (Below.refl _ _) (Nat.le_refl _) (by simp) ?_;(case hd=>rfl);(case hg=>rfl);(case hr=>first|(go_simp;done)|(go_simp;rfl));(case hp=>exact (Reps.one (show Kd.M Kd.string _ _ _ ay [.string ay] from rfl) (Reps.one (show Kd.M Kd.string _ _ _ az [.string az] from rfl) (Reps.none _ _))))
 intro v269 e0 ho22 hb hg_ hnew_
 clear hg_ hnew_
 (first|rw [← bs.out] at ho22|(simp only [Int.reduceToNat] at ho22;rw [← bs.out] at ho22))
 have z_:=p_ (Kd.R_lower ho22 (below_size th_)) <| bw1_ (kb_ a5) th_ hb
 clear a5 HB
 obtain ⟨ci,a5,HB⟩:=z_
 clear hb ho22
 refine hK.out _ _ (bk6_ a5.out) (fun hHeld=>?_)
 clear hK K
 refine nm_ (some 25) ?_
 refine yr_ 16 3 bq_261 HT_ ?_
 refine done_ (done_of HT_.out kr_) ?_
 try go_wp2
 go_loopg [3,4] k (fun kq v3 v4 w'=>∃ (b0:List ByteArray) (ae:Int),v4=.int .i64 ae∧Aside0 (spec_InodeWords.l0 kq b0 ae a8 a9 aa ab l0_4 a6=some r)∧Aside0 (kq≤k)∧Aside0 (Kd.R Kd.string 9 w' w.heap.size (fun _=>True) v3 b0)∧Aside0 (w'.heap[ac]?=some (.cells #[.int .i64 a8,.int .i64 a9,.int .i64 aa,.string ab,(.slice am l0_4.length aj),(.slice an a6.length ak)] 62 (0,0)))∧Aside0 (Below w.heap.size w w'))
 case atStart=>exact ⟨(ch),(0),tq_3,H',⟨Nat.le_refl _⟩,⟨(raR_ ci)⟩,⟨(kb_ a5)⟩,⟨th_⟩⟩
 case round =>
 clear H'
 try clear c1;try clear p2;try clear c4;try clear c5;try clear c7;try clear ca;try clear b3;try clear b4;try clear b5;try clear cb;try clear b7;try clear b8;try clear av;try clear bz
 obtain ⟨b0,ae,rfl,HA,HK1,a7,a5,HB⟩:=hrel
 cases gk with
 | zero=>exact absurd HA.out (by simp [spec_InodeWords.l0])
 | succ k1 =>
 have H:=HA.out
 clear HA
 simp only [spec_InodeWords.l0] at H
 have cj:=m_ H
 clear H
 have ba:=bb6_ a5.out
 go_upto_if 30 with (fail)
 (try clear ba)
 have H:=cj.out
 clear cj
 by_cases bu:ae < (l0_4.length:Int)
 ·rw [if_pos bu] at H
  have al:=de_ bu
  clear bu
  (first|rw [al]|(simp only [i64_w,i32_w];rw [al])|skip)
  obtain ⟨d4,H⟩:=fc_ H
  have bv:=de_ d4
  clear d4
  obtain ⟨bg,dp,H⟩:=bd_ H
  obtain ⟨d5,H⟩:=fc_ H
  have ck:=m_ d5
  clear d5
  obtain ⟨cl,bb⟩:∃ y_:List ByteArray,y_=(b0++[bg]):=⟨_,rfl⟩
  replace H:(spec_InodeWords.l0 k1 cl (wrap64 (ae+1)) a8 a9 aa ab l0_4 a6)=some r:=rh_ bb H
  have cm:=m_ bb
  clear bb
  have H':=m_ H
  clear H
  have bh:=bb6_ a5.out
  have bc:0≤(ae:Int):=od_ tq_2
  have bd:ae < (l0_4.length:Int):=od_ tq_2
  obtain ⟨cn,d8,ag,ah,ai⟩:=at_T86 HR0_4.out ae bc bd
  cases d8
  replace ag:=hx_ HB.out ag
  replace ah:=hx_ HB.out ah
  replace ai:=hx_ HB.out ai
  replace bc:=eq_true bc
  replace bd:=eq_true bd
  go_wp2_with (first|((with_reducible refine gate_callee (f:=76) rfl ?_);refine goesL_ (some 39) rfl rfl Tryz.func76 kr_ rfl #[.agg #[.int .i64 ((rd_T86 l0_4 ae).f0),.int .i64 ((rd_T86 l0_4 ae).f1),.string ((rd_T86 l0_4 ae).f2)]] rfl tq_0 ?_;(with_reducible refine (spec_RecWord.calls k1 ((rd_T86 l0_4 ae).f0) ((rd_T86 l0_4 ae).f1) ((rd_T86 l0_4 ae).f2) bg _ dp.out).mono ?_);rintro e e1 ⟨rfl,hb⟩;refine ⟨_,rfl,?_⟩;have z_:=p_ (Kd.R_below (raR_ a7) hb) <| bw1_ (kb_ a5) th_ hb;clear a7 a5 HB;obtain ⟨a7,a5,HB⟩:=z_;(try clear hb))|((with_reducible refine gate_builtin (b:=.append) (xs:=#[.tmp 33,.tmp 40]) rfl ?_);at_builtin;refine Kd.R_append Kd.string (w0:=w) w.heap.size rfl (.tmp 33) (.tmp 40) 55 9 (.string ⟨#[]⟩) 16 rfl Tryz.underlying55 info9 rfl (by decide) (by omega) u3 b0 bg [.string bg] (fun _=>True) (fun _=>False) rfl rfl ?aP (fun _ hk=>hk.elim) ?aF ?aO ?aB ?aS ?aL ?_;(case aP=>exact rfl);(case aB=>exact th_);(case aF=>exact (fun _ _=>trivial));(case aO=>exact (raR_ a7));(case aS=>exact (below_size th_));(case aL=>have:=ck.out;omega);intro v274 e2 ho hb hg hat;rw [← cm.out] at ho;have z_:=p_ (blk_grown (g:=ac) (o:=.cells #[.int .i64 a8,.int .i64 a9,.int .i64 aa,.string ab,.slice (some cn) l0_4.length aj,.slice an a6.length ak] 62 (0,0)) (kb_ a5) hg (Kd.R_ne a7.out a5.out (by decide))) <| p_ (hb) <| a_ (ho);clear a5 HB a7;obtain ⟨a5,HB,co⟩:=z_;clear ho hb hg hat))
  go_roundg k1
  case measure=>have:=HK1.out;omega
  case rel=>exact ⟨(cl),(wrap64 (ae+1)),tq_3,H',⟨tq_14⟩,⟨(raR_ co)⟩,⟨(kb_ a5)⟩,⟨th_⟩⟩
 rw [if_neg bu] at H
 have al:=df_ bu
 clear bu
 (first|rw [al]|(simp only [i64_w,i32_w];rw [al])|skip)
 have H':=m_ H
 clear H
 go_wp2
 go_loopg [3,5] k1 (fun kq v3 v5 w'=>∃ (b1:List ByteArray) (af:Int),v5=.int .i64 af∧Aside0 (spec_InodeWords.l1 kq b1 af a8 a9 aa ab l0_4 a6=some r)∧Aside0 (kq≤k1)∧Aside0 (Kd.R Kd.string 9 w' w.heap.size (fun _=>True) v3 b1)∧Aside0 (w'.heap[ac]?=some (.cells #[.int .i64 a8,.int .i64 a9,.int .i64 aa,.string ab,(.slice am l0_4.length aj),(.slice an a6.length ak)] 62 (0,0)))∧Aside0 (Below w.heap.size w w'))
 case atStart=>exact ⟨(b0),(0),tq_3,H',⟨Nat.le_refl _⟩,⟨(raR_ a7)⟩,⟨(kb_ a5)⟩,⟨th_⟩⟩
 case round =>
 clear H'
 try clear c1;try clear c2;try clear p2;try clear q2;try clear hx2;try clear c4;try clear c5;try clear p6;try clear c7;try clear ca;try clear b3;try clear b4;try clear b5;try clear cb;try clear b7;try clear b8;try clear av;try clear bu;try clear al;try clear d4;try clear bv;try clear di;try clear dj;try clear hx27;try clear d5;try clear ba;try clear bh;try clear bz;try clear ba;try clear bh;try clear bz;try clear ag;try clear ah;try clear ai;try clear p2;try clear bc;try clear bd
 obtain ⟨b1,af,rfl,HA,d6,a7,a5,HB⟩:=hrel
 cases gk with
 | zero=>exact absurd HA.out (by simp [spec_InodeWords.l1])
 | succ k2 =>
 have H:=HA.out
 clear HA
 simp only [spec_InodeWords.l1] at H
 have cp:=m_ H
 clear H
 have bw:=bb6_ a5.out
 go_upto_if 46 with (fail)
 (try clear bw)
 have H:=cp.out
 clear cp
 by_cases bx:af < (a6.length:Int)
 ·rw [if_pos bx] at H
  have ao:=de_ bx
  clear bx
  (first|rw [ao]|(simp only [i64_w,i32_w];rw [ao])|skip)
  obtain ⟨d9,H⟩:=fc_ H
  have cq:=de_ d9
  clear d9
  obtain ⟨bi,dq,H⟩:=bd_ H
  obtain ⟨da,H⟩:=fc_ H
  have cr:=m_ da
  clear da
  obtain ⟨ct,be⟩:∃ y_:List ByteArray,y_=(b1++[bi]):=⟨_,rfl⟩
  replace H:(spec_InodeWords.l1 k2 ct (wrap64 (af+1)) a8 a9 aa ab l0_4 a6)=some r:=rh_ be H
  have cu:=m_ be
  clear be
  have H':=m_ H
  clear H
  have cv:=bb6_ a5.out
  have bj:0≤(af:Int):=od_ tq_2
  have bl:af < (a6.length:Int):=od_ tq_2
  obtain ⟨cw,db,ap,aq⟩:=at_T90 HR0_5.out af bj bl
  cases db
  replace ap:=hx_ HB.out ap
  replace aq:=hx_ HB.out aq
  replace bj:=eq_true bj
  replace bl:=eq_true bl
  go_wp2_with (first|((with_reducible refine gate_callee (f:=77) rfl ?_);refine goesL_ (some 55) rfl rfl Tryz.func77 kr_ rfl #[.agg #[.int .i64 ((rd_T90 a6 af).f0),.string ((rd_T90 a6 af).f1)]] rfl tq_0 ?_;(with_reducible refine (spec_EntryWord.calls k2 ((rd_T90 a6 af).f0) ((rd_T90 a6 af).f1) bi _ dq.out).mono ?_);rintro e e3 ⟨rfl,hb⟩;refine ⟨_,rfl,?_⟩;have z_:=p_ (Kd.R_below (raR_ a7) hb) <| bw1_ (kb_ a5) th_ hb;clear a7 a5 HB;obtain ⟨a7,a5,HB⟩:=z_;(try clear hb))|((with_reducible refine gate_builtin (b:=.append) (xs:=#[.tmp 49,.tmp 56]) rfl ?_);at_builtin;refine Kd.R_append Kd.string (w0:=w) w.heap.size rfl (.tmp 49) (.tmp 56) 55 9 (.string ⟨#[]⟩) 16 rfl Tryz.underlying55 info9 rfl (by decide) (by omega) u3 b1 bi [.string bi] (fun _=>True) (fun _=>False) rfl rfl ?aP (fun _ hk=>hk.elim) ?aF ?aO ?aB ?aS ?aL ?_;(case aP=>exact rfl);(case aB=>exact th_);(case aF=>exact (fun _ _=>trivial));(case aO=>exact (raR_ a7));(case aS=>exact (below_size th_));(case aL=>have:=cr.out;omega);intro v279 e4 ho hb hg hat;rw [← cu.out] at ho;have z_:=p_ (blk_grown (g:=ac) (o:=.cells #[.int .i64 a8,.int .i64 a9,.int .i64 aa,.string ab,.slice am l0_4.length aj,.slice (some cw) a6.length ak] 62 (0,0)) (kb_ a5) hg (Kd.R_ne a7.out a5.out (by decide))) <| p_ (hb) <| a_ (ho);clear a5 HB a7;obtain ⟨a5,HB,cx⟩:=z_;clear ho hb hg hat))
  go_roundg k2
  case measure=>have:=HK1.out;have:=d6.out;omega
  case rel=>exact ⟨(ct),(wrap64 (af+1)),tq_3,H',⟨(by have:=HK1.out;have:=d6.out;omega)⟩,⟨(raR_ cx)⟩,⟨(kb_ a5)⟩,⟨th_⟩⟩
 rw [if_neg bx] at H
 have ao:=df_ bx
 clear bx
 (first|rw [ao]|(simp only [i64_w,i32_w];rw [ao])|skip)
 have H':=m_ H
 clear H
 go_wp2
 go_loopg [3] k2 (fun kq v3 w'=>∃ (ar:List ByteArray),Aside0 (spec_InodeWords.l2 kq ar=some r)∧Aside0 (kq≤k2)∧Aside0 (Kd.R Kd.string 9 w' w.heap.size (fun _=>True) v3 ar)∧Aside0 (w'.heap[ac]?=some (.cells #[.int .i64 a8,.int .i64 a9,.int .i64 aa,.string ab,(.slice am l0_4.length aj),(.slice an a6.length ak)] 62 (0,0)))∧Aside0 (Below w.heap.size w w'))
 case atStart=>exact ⟨(b1),H',⟨Nat.le_refl _⟩,⟨(raR_ a7)⟩,⟨(kb_ a5)⟩,⟨th_⟩⟩
 case round =>
 clear H'
 try clear c1;try clear c2;try clear p2;try clear q2;try clear hx2;try clear c3;try clear c4;try clear c5;try clear p6;try clear c7;try clear ca;try clear b3;try clear b4;try clear b5;try clear cb;try clear b7;try clear b8;try clear av;try clear bu;try clear al;try clear d4;try clear bv;try clear di;try clear dj;try clear hx27;try clear d5;try clear bx;try clear ao;try clear d9;try clear cq;try clear da;try clear ba;try clear bh;try clear bw;try clear cv;try clear bz;try clear ba;try clear bh;try clear bw;try clear cv;try clear bz;try clear ag;try clear ah;try clear ai;try clear ap;try clear aq;try clear p2;try clear di;try clear bc;try clear bj;try clear p6;try clear q2;try clear dj;try clear bd;try clear bl
 obtain ⟨ar,HA,HK3,a7,a5,HB⟩:=hrel
 cases gk with
 | zero=>exact absurd HA.out (by simp [spec_InodeWords.l2])
 | succ k3 =>
 have H:=HA.out
 clear HA
 simp only [spec_InodeWords.l2] at H
 have cy:=m_ H
 clear H
 obtain ⟨dc,dd,de⟩:=Kd.R_slice a7.out
 subst de
 go_upto_if 60 with (fail)
 have H:=cy.out
 clear cy
 by_cases cc:(ar.length:Int) < 8
 rotate_left
 ·rw [if_neg cc] at H
  have au:=df_ cc
  have cz:decide (ar.length < 8)=false:=df_ (by omega)
  clear cc
  (first|rw [au]|(simp only [i64_w,i32_w];rw [au])|skip)
  obtain rfl:=oi_ H
  go_wp2
  go_ret
  exact ⟨_,tq_1,(raR_ a7),th_⟩
 rw [if_pos cc] at H
 have au:=de_ cc
 have cz:decide (ar.length < 8)=true:=de_ (by omega)
 clear cc
 (first|rw [au]|(simp only [i64_w,i32_w];rw [au])|skip)
 obtain ⟨bm,dr,H⟩:=bd_ H
 obtain ⟨dk,H⟩:=fc_ H
 have d0:=m_ dk
 clear dk
 obtain ⟨d1,bf⟩:∃ y_:List ByteArray,y_=(ar++[bm]):=⟨_,rfl⟩
 replace H:(spec_InodeWords.l2 k3 d1)=some r:=rh_ bf H
 have d2:=m_ bf
 clear bf
 have H':=m_ H
 clear H
 go_wp2_with (first|((with_reducible refine gate_callee (f:=49) rfl ?_);refine goesL_ (some 62) rfl rfl Tryz.func49 kr_ rfl #[.int .i64 8] rfl tq_0 ?_;(with_reducible refine (spec_ZeroText.calls k3 8 bm _ dr.out).mono ?_);rintro e e5 ⟨rfl,hb⟩;refine ⟨_,rfl,?_⟩;have z_:=p_ (Kd.R_below (raR_ a7) hb) <| bw1_ (kb_ a5) th_ hb;clear a7 a5 HB;obtain ⟨a7,a5,HB⟩:=z_;(try clear hb))|((with_reducible refine gate_builtin (b:=.append) (xs:=#[.tmp 61,.tmp 63]) rfl ?_);at_builtin;refine Kd.R_append Kd.string (w0:=w) w.heap.size rfl (.tmp 61) (.tmp 63) 55 9 (.string ⟨#[]⟩) 16 rfl Tryz.underlying55 info9 rfl (by decide) (by omega) (.slice dc ar.length dd) ar bm [.string bm] (fun _=>True) (fun _=>False) rfl rfl ?aP (fun _ hk=>hk.elim) ?aF ?aO ?aB ?aS ?aL ?_;(case aP=>exact rfl);(case aB=>exact th_);(case aF=>exact (fun _ _=>trivial));(case aO=>exact (raR_ a7));(case aS=>exact (below_size th_));(case aL=>have:=d0.out;omega);intro v283 e6 ho hb hg hat;rw [← d2.out] at ho;have z_:=p_ (blk_grown (g:=ac) (o:=.cells #[.int .i64 a8,.int .i64 a9,.int .i64 aa,.string ab,.slice am l0_4.length aj,.slice an a6.length ak] 62 (0,0)) (kb_ a5) hg (Kd.R_ne a7.out a5.out (by decide))) <| p_ (hb) <| a_ (ho);clear a5 HB a7;obtain ⟨a5,HB,d3⟩:=z_;clear ho hb hg hat))
 go_roundg k3
 case measure=>have:=HK1.out;have:=d6.out;have:=HK3.out;omega
 case rel=>exact ⟨(d1),H',⟨(by have:=HK1.out;have:=d6.out;have:=HK3.out;omega)⟩,⟨(raR_ d3)⟩,⟨(kb_ a5)⟩,⟨th_⟩⟩

mutual
def spec_ReadInode.l0:Nat→List ByteArray→Int→Option (Int × Int × Int × ByteArray × (List (S86)) × (List (S90)) × Bool)
 | 0,_,_=>none
 | k+1,x0,x4=>if x4 < 8 then (if 0≤x4 then (if x4 < (x0.length:Int) then (if ((rdOf ByteArray.empty x0 x4).size:Int)=8 then (spec_ReadInode.l0 k x0 (wrap64 (x4+1))) else (some (0,0,0,(⟨#[]⟩:ByteArray),([]:List (S86)),([]:List (S90)),false))) else (none)) else (none)) else (if 0 < (x0.length:Int) then (if 0 < ((rdOf ByteArray.empty x0 0).size:Int) then ((spec_NumAt.f k (rdOf ByteArray.empty x0 0) 1 2).bind fun a5=>((spec_NumAt.f k (rdOf ByteArray.empty x0 0) 3 2).bind fun a6=>((spec_ZeroText.f k 8).bind fun a7=>(if (wrap64 (bt (rdOf ByteArray.empty x0 0) 0))=1 then (if 1 < (x0.length:Int) then (spec_ReadInode.j1 k x0 a7 (wrap64 (bt (rdOf ByteArray.empty x0 0) 0)) a5.1 a6.1 (rdOf ByteArray.empty x0 1)) else (none)) else (spec_ReadInode.j1 k x0 a7 (wrap64 (bt (rdOf ByteArray.empty x0 0) 0)) a5.1 a6.1 (⟨#[]⟩:ByteArray)))))) else (none)) else (none))
def spec_ReadInode.j1:Nat→List ByteArray→ByteArray→Int→Int→Int→ByteArray→Option (Int × Int × Int × ByteArray × (List (S86)) × (List (S90)) × Bool)
 | 0,_,_,_,_,_,_=>none
 | k+1,x0,x6,a5,a6,a7,a8=>spec_ReadInode.l1 k x0 x6 2 a5 a6 a7 a8 ([]:List (S86)) ([]:List (S90))
def spec_ReadInode.l1:Nat→List ByteArray→ByteArray→Int→Int→Int→Int→ByteArray→List (S86)→List (S90)→Option (Int × Int × Int × ByteArray × (List (S86)) × (List (S90)) × Bool)
 | 0,_,_,_,_,_,_,_,_,_=>none
 | k+1,x0,x6,x7,a5,a6,a7,a8,a9,aa=>if x7 < 8 then (if 0≤x7 then (if x7 < (x0.length:Int) then (spec_ReadInode.j3 k x0 x6 x7 ((rdOf ByteArray.empty x0 x7).toList != x6.toList) a5 a6 a7 a8 a9 aa) else (none)) else (none)) else (spec_ReadInode.j3 k x0 x6 x7 false a5 a6 a7 a8 a9 aa)
def spec_ReadInode.j3:Nat→List ByteArray→ByteArray→Int→Bool→Int→Int→Int→ByteArray→List (S86)→List (S90)→Option (Int × Int × Int × ByteArray × (List (S86)) × (List (S90)) × Bool)
 | 0,_,_,_,_,_,_,_,_,_,_=>none
 | k+1,x0,x6,x7,af,a5,a7,a8,a9,a6,aa=>if af=true then (if a5=1 then (if 0≤x7 then (if x7 < (x0.length:Int) then ((spec_ReadRec.f k (rdOf ByteArray.empty x0 x7)).bind fun ab=>(if ab.2.2.2=true then (if a6.length < 4398046511104 then (spec_ReadInode.j4 k x0 x6 x7 a5 a7 a8 a9 (a6++[(⟨ab.1,ab.2.1,ab.2.2.1⟩:S86)]) aa) else (none)) else (some (0,0,0,(⟨#[]⟩:ByteArray),([]:List (S86)),([]:List (S90)),false)))) else (none)) else (none)) else (spec_ReadInode.j4 k x0 x6 x7 a5 a7 a8 a9 a6 aa)) else ((spec_InodeWords.f k a5 a7 a8 a9 a6 aa).bind fun ac=>((spec_l12Words.f k ac x0).bind fun ae=>(if ae=true then (some (a5,a7,a8,a9,a6,aa,true)) else (some (0,0,0,(⟨#[]⟩:ByteArray),([]:List (S86)),([]:List (S90)),false)))))
def spec_ReadInode.j4:Nat→List ByteArray→ByteArray→Int→Int→Int→Int→ByteArray→List (S86)→List (S90)→Option (Int × Int × Int × ByteArray × (List (S86)) × (List (S90)) × Bool)
 | 0,_,_,_,_,_,_,_,_,_=>none
 | k+1,x0,x6,x7,a5,a7,a8,a9,aa,a6=>if a5=2 then (if 0≤x7 then (if x7 < (x0.length:Int) then ((spec_ReadEntry.f k (rdOf ByteArray.empty x0 x7)).bind fun ab=>(if ab.2.2=true then (if a6.length < 5864062014805 then (spec_ReadInode.l1 k x0 x6 (wrap64 (x7+1)) a5 a7 a8 a9 aa (a6++[(⟨ab.1,ab.2.1⟩:S90)])) else (none)) else (some (0,0,0,(⟨#[]⟩:ByteArray),([]:List (S86)),([]:List (S90)),false)))) else (none)) else (none)) else (spec_ReadInode.l1 k x0 x6 (wrap64 (x7+1)) a5 a7 a8 a9 aa a6)
end
def spec_ReadInode.f (k:Nat) (l0:List ByteArray):Option (Int × Int × Int × ByteArray × (List (S86)) × (List (S90)) × Bool):=if (l0.length:Int)=8 then (spec_ReadInode.l0 k l0 0) else (some (0,0,0,(⟨#[]⟩:ByteArray),([]:List (S86)),([]:List (S90)),false))
theorem spec_ReadInode.calls (k:Nat) (A0:Option Addr) (c0:Nat) (l0:List ByteArray) (r1:Int) (r2:Int) (r3:Int) (r4:ByteArray) (r5:List (S86)) (r6:List (S90)) (r7:Bool) (w:World) (hr0:Kd.C Kd.string w A0 l0.length l0) (hc0:l0.length≤c0) (h:spec_ReadInode.f k l0=some (r1,r2,r3,r4,r5,r6,r7)) :
  Calls Tryz.prog 26 #[.slice A0 l0.length c0] w fun e w'=>∃ v4_ v5_:Value,e=.returned (.tuple #[.agg #[.int .i64 r1,.int .i64 r2,.int .i64 r3,.string r4,v4_,v5_],.bool r7])∧Kd.R k86 86 w' w.heap.size (fun _=>True) v4_ r5∧Kd.R k90 90 w' w.heap.size (fun _=>True) v5_ r6∧Below w.heap.size w w':=by
 have hu62:=Tryz.underlying62
 have hu86:=Tryz.underlying86
 have hu90:=Tryz.underlying90
 have HR0:=m_ hr0
 have hm:=m_ hc0
 clear hr0 hc0
 have HB:=m_ (Below.refl w.heap.size w)
 unfold spec_ReadInode.f at h
 have H:=h
 clear h
 by_cases c2:(l0.length:Int)=8
 rotate_left
 ·rw [if_neg c2] at H
  have d8:=qc_ c2
  have d9:=qd_ c2
  simp only [Option.some.injEq,Prod.mk.injEq] at H
  obtain ⟨rfl,rfl,rfl,rfl,rfl,rfl,rfl⟩:=H
  go_enter Tryz.func26,Tryz.ntmps26
  go_wp2_with (first|((with_reducible refine gate_dst (N:=2) rfl ?_);refine be_ 2 (cs:=#[.int .i64 0,.int .i64 0,.int .i64 0,.string (⟨#[]⟩:ByteArray),.slice none 0 0,.slice none 0 0]) 62 ?_;intro aj hg ij hbox hb;have z_:=bx0_ th_ hb hbox hg;clear HB;obtain ⟨HB,a6,ev,ew⟩:=z_;clear hb hbox hg;have hu:=bb6_ a6.out))
  refine bodyPost_ret (results_ct rfl _ _ aj 62 #[.int .i64 0,.int .i64 0,.int .i64 0,.string (⟨#[]⟩:ByteArray),.slice none 0 0,.slice none 0 0] (0,0) _ rfl tb_ Tryz.underlying62 rfl kr_) rfl ?_
  exact ⟨_,_,tq_1,tq_5,tq_5,th_⟩
 rw [if_pos c2] at H
 have d8:=qa_ c2
 have d9:=qb_ c2
 clear c2
 have H':=m_ H
 clear H
 go_enter Tryz.func26,Tryz.ntmps26
 go_wp2_with (first|((with_reducible refine gate_dst (N:=2) rfl ?_);refine be_ 2 (cs:=#[.int .i64 0,.int .i64 0,.int .i64 0,.string (⟨#[]⟩:ByteArray),.slice none 0 0,.slice none 0 0]) 62 ?_;intro aj hg w3 hbox hb;have z_:=bx0_ th_ hb hbox hg;clear HB;obtain ⟨HB,a6,ev,ew⟩:=z_;clear hb hbox hg))
 go_loopg [4] k (fun kq v4 w'=>∃ (bf:Int) (al:Int) (am:Int) (an:Int) (ao:ByteArray),v4=.int .i64 bf∧Aside0 (spec_ReadInode.l0 kq l0 bf=some (r1,r2,r3,r4,r5,r6,r7))∧Aside0 (kq≤k)∧Aside0 (w'.heap[aj]?=some (.cells #[.int .i64 al,.int .i64 am,.int .i64 an,.string ao,(.slice none 0 0),(.slice none 0 0)] 62 (0,0)))∧Aside0 (Below w.heap.size w w'))
 case atStart=>exact ⟨(0),(0),(0),(0),((⟨#[]⟩:ByteArray)),tq_3,H',⟨Nat.le_refl _⟩,⟨(kb_ a6)⟩,⟨th_⟩⟩
 case round =>
 clear H'
 try clear c2;try clear d8;try clear d9;try clear p2
 obtain ⟨bf,al,am,an,ao,rfl,HA,HK1,a6,HB⟩:=hrel
 cases gk with
 | zero=>exact absurd HA.out (by simp [spec_ReadInode.l0])
 | succ k1 =>
 have H:=HA.out
 clear HA
 simp only [spec_ReadInode.l0] at H
 by_cases c4:bf < 8
 ·rw [if_pos c4] at H
  have da:=de_ c4
  clear c4
  obtain ⟨c5,H⟩:=fc_ H
  have dv:=de_ c5
  clear c5
  obtain ⟨c6,H⟩:=fc_ H
  have dw:=de_ c6
  clear c6
  by_cases c7:((rdOf ByteArray.empty l0 bf).size:Int)=8
  ·rw [if_pos c7] at H
   have db:=qa_ c7
   have dc:=qb_ c7
   clear c7
   have H':=m_ H
   clear H
   have bh:0≤(bf:Int):=od_ tq_2
   have bi:bf < (l0.length:Int):=od_ tq_2
   obtain ⟨ex,ef,ak⟩:=Kd.at_string HR0.out bf bh bi
   cases ef
   replace ak:=hx_ HB.out ak
   replace bh:=eq_true bh
   replace bi:=eq_true bi
   go_wp2
   go_roundg k1
   case measure=>have:=HK1.out;omega
   case rel=>exact ⟨(wrap64 (bf+1)),(al),(am),(an),(ao),tq_3,H',⟨tq_14⟩,⟨(kb_ a6)⟩,⟨th_⟩⟩
  rw [if_neg c7] at H
  have db:=qc_ c7
  have dc:=qd_ c7
  simp only [Option.some.injEq,Prod.mk.injEq] at H
  obtain ⟨rfl,rfl,rfl,rfl,rfl,rfl,rfl⟩:=H
  have bh:0≤(bf:Int):=od_ tq_2
  have bi:bf < (l0.length:Int):=od_ tq_2
  obtain ⟨ex,ef,ak⟩:=Kd.at_string HR0.out bf bh bi
  cases ef
  replace ak:=hx_ HB.out ak
  replace bh:=eq_true bh
  replace bi:=eq_true bi
  have e7:=bb6_ a6.out
  go_wp2
  refine bodyPost_ret (results_ct rfl _ _ aj 62 #[.int .i64 0,.int .i64 0,.int .i64 0,.string (⟨#[]⟩:ByteArray),.slice none 0 0,.slice none 0 0] (0,0) _ rfl tb_ Tryz.underlying62 rfl kr_) rfl ?_
  exact ⟨_,_,tq_1,tq_5,tq_5,th_⟩
 rw [if_neg c4] at H
 have da:=df_ c4
 clear c4
 obtain ⟨c9,H⟩:=fc_ H
 have dx:=de_ c9
 have dy:decide (0 < l0.length)=true:=de_ (by omega)
 clear c9
 obtain ⟨et,H⟩:=fc_ H
 have cq:=de_ et
 have cr:decide (0 < (rdOf ByteArray.empty l0 0).size)=true:=de_ (by omega)
 clear et
 obtain ⟨⟨av,g8⟩,ik,H⟩:=bd_ H
 try dsimp -simprocs only at H
 obtain ⟨⟨ay,g9⟩,il,H⟩:=bd_ H
 try dsimp -simprocs only at H
 obtain ⟨bq,im,H⟩:=bd_ H
 have eh:=m_ H
 clear H
 have cg:0≤(0:Int):=(by omega)
 have ch:0 < (l0.length:Int):=od_ tq_2
 obtain ⟨ab,ga,aw⟩:=Kd.at_string HR0.out 0 cg ch
 cases ga
 have i0:(0 < l0.length)=True:=eq_true (by omega)
 (try rw [show ((0:Int)).toNat=0 from rfl] at aw)
 (try rw [Addr.add_zero'] at aw)
 replace aw:=hx_ HB.out aw
 replace cg:=eq_true cg
 replace ch:=eq_true ch
 have dz:0≤(0:Int):=(by omega)
 have du:0 < (rdOf ByteArray.empty l0 0).size:=(by have:(0:Int) < ((rdOf ByteArray.empty l0 0).size:Int):=od_ tq_2;omega)
 have hx11:∀ h:0 < (rdOf ByteArray.empty l0 0).size,(((rdOf ByteArray.empty l0 0)[0]'h).toNat:Int)=bt (rdOf ByteArray.empty l0 0) 0:=bt_at (rdOf ByteArray.empty l0 0) 0
 clear dz
 have e0:(0 < ((rdOf ByteArray.empty l0 0).size:Int))=True:=eq_true (od_ tq_2)
 replace du:=eq_true du
 go_upto_if 52 with (first|((with_reducible refine gate_dst (N:=5) rfl ?_);refine be_ 5 (cs:=#[.int .i64 0,.int .i64 0,.int .i64 0,.string (⟨#[]⟩:ByteArray),.slice none 0 0,.slice none 0 0]) 62 ?_;intro aa hg j8 hbox hb;have z_:=bx1_ (kb_ a6) th_ hb hbox hg;clear a6 HB;obtain ⟨a6,HB,a5,az,i1,b0,b8⟩:=z_;clear hb hbox hg;obtain ⟨br,bs⟩:=an2_ b8 b0;have bu:=bb6_ a5.out;have ci:0≤(0:Int):=(by omega);have cj:0 < (l0.length:Int):=od_ tq_2;obtain ⟨ey,gb,hx289_0⟩:=Kd.at_string HR0.out 0 ci cj;obtain rfl:ab=ey:=(by injection gb);have i2:(0 < l0.length)=True:=eq_true (by omega);(try rw [show ((0:Int)).toNat=0 from rfl] at hx289_0);(try rw [Addr.add_zero'] at hx289_0);have ct:ab.block≠aa:=Nat.ne_of_lt (Nat.lt_of_lt_of_le tq_49 az.out);have cu:ab.block≠aa:=Nat.ne_of_lt (Nat.lt_of_lt_of_le tq_49 az.out);have cv:ab.block≠aa:=Nat.ne_of_lt (Nat.lt_of_lt_of_le tq_49 az.out);have cw:ab.block≠aa:=Nat.ne_of_lt (Nat.lt_of_lt_of_le tq_49 az.out);have cx:ab.block≠aa:=Nat.ne_of_lt (Nat.lt_of_lt_of_le tq_49 az.out);have cy:ab.block≠aa:=Nat.ne_of_lt (Nat.lt_of_lt_of_le tq_49 az.out);replace hx289_0:=hx_ HB.out hx289_0;replace hx289_0:=(cell_far (p:=⟨aa,0,none⟩) (ab_ ct) (.int .i64 (wrap64 (bt (rdOf ByteArray.empty l0 0) 0)))).trans hx289_0;replace hx289_0:=(cell_far (p:=⟨aa,1,none⟩) (ab_ cu) (.int .i64 0)).trans hx289_0;replace hx289_0:=(cell_far (p:=⟨aa,2,none⟩) (ab_ cv) (.int .i64 0)).trans hx289_0;replace hx289_0:=(cell_far (p:=⟨aa,3,none⟩) (ab_ cw) (.string (⟨#[]⟩:ByteArray))).trans hx289_0;replace hx289_0:=(cell_far (p:=⟨aa,4,none⟩) (ab_ cx) (.slice none 0 0)).trans hx289_0;replace hx289_0:=(cell_far (p:=⟨aa,5,none⟩) (ab_ cy) (.slice none 0 0)).trans hx289_0;clear ct cu cv cw cx cy;replace ci:=eq_true ci;replace cj:=eq_true cj)|((with_reducible refine gate_callee (f:=21) rfl ?_);refine goesL_ (some 37) rfl rfl Tryz.func21 kr_ rfl #[.string (rdOf ByteArray.empty l0 0),.int .i64 1,.int .i64 2] rfl tq_0 ?_;(with_reducible refine (spec_NumAt.calls k1 (rdOf ByteArray.empty l0 0) 1 2 av g8 _ ik.out).mono ?_);rintro e w' ⟨rfl,⟨nd,rfl⟩⟩;refine ⟨_,rfl,?_⟩;have ck:0≤(0:Int):=(by omega);have cl:0 < (l0.length:Int):=od_ tq_2;obtain ⟨ez,gc,hx292_0⟩:=Kd.at_string HR0.out 0 ck cl;obtain rfl:ab=ez:=(by injection gc);have i3:(0 < l0.length)=True:=eq_true (by omega);(try rw [show ((0:Int)).toNat=0 from rfl] at hx292_0);(try rw [Addr.add_zero'] at hx292_0);have cz:ab.block≠aa:=Nat.ne_of_lt (Nat.lt_of_lt_of_le tq_41 az.out);have d0:ab.block≠aa:=Nat.ne_of_lt (Nat.lt_of_lt_of_le tq_41 az.out);have d1:ab.block≠aa:=Nat.ne_of_lt (Nat.lt_of_lt_of_le tq_41 az.out);have d2:ab.block≠aa:=Nat.ne_of_lt (Nat.lt_of_lt_of_le tq_41 az.out);have d3:ab.block≠aa:=Nat.ne_of_lt (Nat.lt_of_lt_of_le tq_41 az.out);have d4:ab.block≠aa:=Nat.ne_of_lt (Nat.lt_of_lt_of_le tq_41 az.out);have d5:ab.block≠aa:=Nat.ne_of_lt (Nat.lt_of_lt_of_le tq_41 az.out);replace hx292_0:=hx_ HB.out hx292_0;replace hx292_0:=(cell_far (p:=⟨aa,0,none⟩) (ab_ cz) (.int .i64 (wrap64 (bt (rdOf ByteArray.empty l0 0) 0)))).trans hx292_0;replace hx292_0:=(cell_far (p:=⟨aa,1,none⟩) (ab_ d0) (.int .i64 0)).trans hx292_0;replace hx292_0:=(cell_far (p:=⟨aa,2,none⟩) (ab_ d1) (.int .i64 0)).trans hx292_0;replace hx292_0:=(cell_far (p:=⟨aa,3,none⟩) (ab_ d2) (.string (⟨#[]⟩:ByteArray))).trans hx292_0;replace hx292_0:=(cell_far (p:=⟨aa,4,none⟩) (ab_ d3) (.slice none 0 0)).trans hx292_0;replace hx292_0:=(cell_far (p:=⟨aa,5,none⟩) (ab_ d4) (.slice none 0 0)).trans hx292_0;replace hx292_0:=(cell_far (p:=⟨aa,1,none⟩) (ab_ d5) (.int .i64 av)).trans hx292_0;clear cz d0 d1 d2 d3 d4 d5;replace ck:=eq_true ck;replace cl:=eq_true cl)|((with_reducible refine gate_callee (f:=21) rfl ?_);refine goesL_ (some 45) rfl rfl Tryz.func21 kr_ rfl #[.string (rdOf ByteArray.empty l0 0),.int .i64 3,.int .i64 2] rfl tq_0 ?_;(with_reducible refine (spec_NumAt.calls k1 (rdOf ByteArray.empty l0 0) 3 2 ay g9 _ il.out).mono ?_);rintro e w' ⟨rfl,⟨nd,rfl⟩⟩;refine ⟨_,rfl,?_⟩)|((with_reducible refine gate_callee (f:=49) rfl ?_);refine goesL_ (some 49) rfl rfl Tryz.func49 kr_ rfl #[.int .i64 8] rfl tq_0 ?_;(with_reducible refine (spec_ZeroText.calls k1 8 bq _ im.out).mono ?_);rintro e j9 ⟨rfl,hb⟩;refine ⟨_,rfl,?_⟩;have z_:=p_ (blk_below (g:=aj) (o:=.cells #[.int .i64 al,.int .i64 am,.int .i64 an,.string ao,.slice none 0 0,.slice none 0 0] 62 (0,0)) (fr_ a6.out b0.out) hb) <| p_ (blk_below (g:=aa) (o:=.cells #[.int .i64 (wrap64 (bt (rdOf ByteArray.empty l0 0) 0)),.int .i64 av,.int .i64 ay,.string (⟨#[]⟩:ByteArray),.slice none 0 0,.slice none 0 0] 62 (0,0)) (pt_ a5.out) hb) <| a_ (below_step th_ hb);clear a6 a5 HB;obtain ⟨a6,a5,HB⟩:=z_;(try clear hb);have bv:=bb6_ a5.out))
 (try simp only [Act.put,List.setIfInBounds_toArray,List.set_cons_zero,List.set_cons_succ])
 go_cut [] (fun wc=>∃ (kq:Nat) (a7:ByteArray),Aside0 (spec_ReadInode.j1 kq l0 bq (wrap64 (bt (rdOf ByteArray.empty l0 0) 0)) av ay a7=some (r1,r2,r3,r4,r5,r6,r7))∧Aside0 (kq≤k1)∧Aside0 (wc.heap[aj]?=some (.cells #[.int .i64 al,.int .i64 am,.int .i64 an,.string ao,(.slice none 0 0),(.slice none 0 0)] 62 (0,0)))∧Aside0 (wc.heap[aa]?=some (.cells #[.int .i64 (wrap64 (bt (rdOf ByteArray.empty l0 0) 0)),.int .i64 av,.int .i64 ay,.string a7,(.slice none 0 0),(.slice none 0 0)] 62 (0,0)))∧Aside0 (Below w.heap.size w wc))
 case first =>
  have H:=eh.out
  clear eh
  by_cases dd:(wrap64 (bt (rdOf ByteArray.empty l0 0) 0))=1
  rotate_left
  ·rw [if_neg dd] at H
   have b6:=qc_ dd
   have bw:=qd_ dd
   (first|rw [b6]|(simp only [i64_w,i32_w];rw [b6])|skip)
   have H':=m_ H
   clear H
   go_wp2
   go_meet
   case rel=>exact ⟨_,((⟨#[]⟩:ByteArray)),H',⟨(by have:=HK1.out;first|omega|exact Nat.le_refl _)⟩,⟨(kb_ a6)⟩,⟨(kb_ a5)⟩,⟨th_⟩⟩
  rw [if_pos dd] at H
  have b6:=qa_ dd
  have bw:=qb_ dd
  clear dd
  (first|rw [b6]|(simp only [i64_w,i32_w];rw [b6])|skip)
  obtain ⟨eu,H⟩:=fc_ H
  have d6:=de_ eu
  have d7:decide (1 < l0.length)=true:=de_ (by omega)
  clear eu
  have H':=m_ H
  clear H
  have cm:0≤(1:Int):=(by omega)
  have cn:1 < (l0.length:Int):=od_ tq_2
  obtain ⟨f7,gd,ax⟩:=Kd.at_string HR0.out 1 cm cn
  obtain rfl:ab=f7:=(by injection gd)
  (try simp only [show (1:Int).toNat=1 from rfl,Nat.reduceMul,Nat.reduceEqDiff,Go.Addr.add,↓reduceIte] at ax)
  have i4:(1 < l0.length)=True:=eq_true (by omega)
  (try rw [show ((1:Int)).toNat=1 from rfl] at ax)
  replace ax:=hx_ HB.out ax
  replace cm:=eq_true cm
  replace cn:=eq_true cn
  have bx:=bb6_ a5.out
  go_wp2
  go_meet
  case rel=>exact ⟨_,(rdOf ByteArray.empty l0 1),H',⟨(by have:=HK1.out;first|omega|exact Nat.le_refl _)⟩,⟨tb_⟩,⟨tb_⟩,⟨th_⟩⟩
 case rest =>
 clear eh
 try clear c1;try clear p1;try clear q1;try clear hx1;try clear ge;try clear c2;try clear d8;try clear d9;try clear p2;try clear q2;try clear hx2;try clear gf;try clear c4;try clear da;try clear c5;try clear dv;try clear c6;try clear dw;try clear p6;try clear c7;try clear db;try clear dc;try clear c9;try clear dx;try clear dy;try clear et;try clear cq;try clear cr;try clear dz;try clear du;try clear hx11;try clear e0;try clear gh;try clear dd;try clear b6;try clear bw;try clear eu;try clear d6;try clear d7;try clear gi;try clear bu;try clear bv;try clear bx;try clear e7;try clear bu;try clear bv;try clear bx;try clear e7;try clear ak;try clear aw;try clear hx289_0;try clear hx292_0;try clear ax;try clear dz;try clear p2;try clear bh;try clear cg;try clear ci;try clear ck;try clear cm;try clear du;try clear bi;try clear ch;try clear cj;try clear cl;try clear cn
 obtain ⟨kq,a7,HA,HJ14,a6,a5,HB⟩:=hcut
 cases kq with
 | zero=>exact absurd HA.out (by simp [spec_ReadInode.j1])
 | succ kj14 =>
 have H:=HA.out
 clear HA
 simp only [spec_ReadInode.j1] at H
 have H':=m_ H
 clear H
 go_wp2
 go_loopg [7] kj14 (fun kq v7 w'=>∃ (ac:Int) (ae:Int) (af:Int) (ag:Int) (ah:ByteArray) (a9:List (S86)) (a8:List (S90)) (u289004:Value) (u289005:Value),v7=.int .i64 ac∧Aside0 (spec_ReadInode.l1 kq l0 bq ac (wrap64 (bt (rdOf ByteArray.empty l0 0) 0)) av ay a7 a9 a8=some (r1,r2,r3,r4,r5,r6,r7))∧Aside0 (kq≤kj14)∧Aside0 (Kd.R k86 86 w' w.heap.size (fun _=>True) u289004 a9)∧Aside0 (Kd.R k90 90 w' w.heap.size (fun _=>True) u289005 a8)∧Aside0 (w'.heap[aj]?=some (.cells #[.int .i64 ae,.int .i64 af,.int .i64 ag,.string ah,(.slice none 0 0),(.slice none 0 0)] 62 (0,0)))∧Aside0 (w'.heap[aa]?=some (.cells #[.int .i64 (wrap64 (bt (rdOf ByteArray.empty l0 0) 0)),.int .i64 av,.int .i64 ay,.string a7,u289004,u289005] 62 (0,0)))∧Aside0 (Below w.heap.size w w'))
 case atStart=>exact ⟨(2),(al),(am),(an),(ao),(([]:List (S86))),(([]:List (S90))),(.slice none 0 0),(.slice none 0 0),tq_3,H',⟨Nat.le_refl _⟩,⟨tq_5⟩,⟨tq_5⟩,⟨(kb_ a6)⟩,⟨(kb_ a5)⟩,⟨th_⟩⟩
 case round =>
 clear H'
 try clear c1;try clear p1;try clear q1;try clear hx1;try clear ge;try clear c2;try clear d8;try clear d9;try clear p2;try clear q2;try clear hx2;try clear gf;try clear c4;try clear da;try clear c5;try clear dv;try clear c6;try clear dw;try clear p6;try clear c7;try clear db;try clear dc;try clear c9;try clear dx;try clear dy;try clear et;try clear cq;try clear cr;try clear dz;try clear du;try clear hx11;try clear e0;try clear gh;try clear dd;try clear b6;try clear bw;try clear eu;try clear d6;try clear d7;try clear gi;try clear bu;try clear bv;try clear bx;try clear e7;try clear bu;try clear bv;try clear bx;try clear e7;try clear ak;try clear aw;try clear hx289_0;try clear hx292_0;try clear ax;try clear p1;try clear dz;try clear p2;try clear bh;try clear cg;try clear ci;try clear ck;try clear cm;try clear p6;try clear q1;try clear du;try clear q2;try clear bi;try clear ch;try clear cj;try clear cl;try clear cn
 obtain ⟨ac,ae,af,ag,ah,a9,a8,u289004,u289005,rfl,HA,HK3,HO_289004,HO_289005,a6,a5,HB⟩:=hrel
 cases gk with
 | zero=>exact absurd HA.out (by simp [spec_ReadInode.l1])
 | succ k3 =>
 have H:=HA.out
 clear HA
 simp only [spec_ReadInode.l1] at H
 have ei:=m_ H
 clear H
 go_upto_region 15 with (fail)
 go_cut [66] (fun v66 wc=>∃ (kq:Nat) (bp:Bool),v66=.bool bp∧Aside0 (spec_ReadInode.j3 kq l0 bq ac bp (wrap64 (bt (rdOf ByteArray.empty l0 0) 0)) av ay a7 a9 a8=some (r1,r2,r3,r4,r5,r6,r7))∧Aside0 (kq≤k3)∧Aside0 (Kd.R k86 86 wc w.heap.size (fun _=>True) u289004 a9)∧Aside0 (Kd.R k90 90 wc w.heap.size (fun _=>True) u289005 a8)∧Aside0 (wc.heap[aj]?=some (.cells #[.int .i64 ae,.int .i64 af,.int .i64 ag,.string ah,(.slice none 0 0),(.slice none 0 0)] 62 (0,0)))∧Aside0 (wc.heap[aa]?=some (.cells #[.int .i64 (wrap64 (bt (rdOf ByteArray.empty l0 0) 0)),.int .i64 av,.int .i64 ay,.string a7,u289004,u289005] 62 (0,0)))∧Aside0 (Below w.heap.size w wc))
 case first =>
  have H:=ei.out
  clear ei
  by_cases e8:ac < 8
  rotate_left
  ·rw [if_neg e8] at H
   have bj:=df_ e8
   clear e8
   (first|rw [bj]|(simp only [i64_w,i32_w];rw [bj])|skip)
   have H':=m_ H
   clear H
   go_wp2
   go_meet
   case rel=>exact ⟨_,(false),tq_3,H',⟨(by have:=HK1.out;have:=HJ14.out;have:=HK3.out;first|omega|exact Nat.le_refl _)⟩,⟨(raR_ HO_289004)⟩,⟨(raR_ HO_289005)⟩,⟨(kb_ a6)⟩,⟨(kb_ a5)⟩,⟨th_⟩⟩
  rw [if_pos e8] at H
  have bj:=de_ e8
  clear e8
  (first|rw [bj]|(simp only [i64_w,i32_w];rw [bj])|skip)
  obtain ⟨fy,H⟩:=fc_ H
  have e9:=de_ fy
  clear fy
  obtain ⟨fz,H⟩:=fc_ H
  have ea:=de_ fz
  clear fz
  have H':=m_ H
  clear H
  have de:0≤(ac:Int):=od_ tq_2
  have df:ac < (l0.length:Int):=od_ tq_2
  obtain ⟨f8,gj,bg⟩:=Kd.at_string HR0.out ac de df
  obtain rfl:ab=f8:=(by injection gj)
  replace bg:=hx_ HB.out bg
  replace de:=eq_true de
  replace df:=eq_true df
  go_wp2
  go_meet
  case rel=>exact ⟨_,(((rdOf ByteArray.empty l0 ac).toList != bq.toList)),tq_3,H',⟨(by have:=HK1.out;have:=HJ14.out;have:=HK3.out;first|omega|exact Nat.le_refl _)⟩,⟨(raR_ HO_289004)⟩,⟨(raR_ HO_289005)⟩,⟨(kb_ a6)⟩,⟨(kb_ a5)⟩,⟨th_⟩⟩
 case rest =>
 clear ei
 try clear c1;try clear p1;try clear q1;try clear hx1;try clear ge;try clear c2;try clear d8;try clear d9;try clear p2;try clear q2;try clear hx2;try clear gf;try clear c4;try clear da;try clear c5;try clear dv;try clear c6;try clear dw;try clear p6;try clear c7;try clear db;try clear dc;try clear c9;try clear dx;try clear dy;try clear et;try clear cq;try clear cr;try clear dz;try clear du;try clear hx11;try clear e0;try clear gh;try clear dd;try clear b6;try clear bw;try clear eu;try clear d6;try clear d7;try clear gi;try clear e8;try clear bj;try clear fy;try clear e9;try clear fz;try clear ea;try clear i5;try clear i6;try clear hx28;try clear gl;try clear bu;try clear bv;try clear bx;try clear e7;try clear bu;try clear bv;try clear bx;try clear e7;try clear ak;try clear aw;try clear hx289_0;try clear hx292_0;try clear ax;try clear bg;try clear p1;try clear dz;try clear p2;try clear bh;try clear cg;try clear ci;try clear ck;try clear cm;try clear de;try clear p6;try clear q1;try clear du;try clear q2;try clear bi;try clear ch;try clear cj;try clear cl;try clear cn;try clear df
 obtain ⟨kq,bp,rfl,HA,HJ24,HO_289004,HO_289005,a6,a5,HB⟩:=hcut
 cases kq with
 | zero=>exact absurd HA.out (by simp [spec_ReadInode.j3])
 | succ kj24 =>
 have H:=HA.out
 clear HA
 simp only [spec_ReadInode.j3] at H
 by_cases f9:bp=true
 rotate_left
 ·replace f9:=Bool.eq_false_iff.mpr f9
  subst f9
  rw [if_neg nf_] at H
  obtain ⟨bn,i7,H⟩:=bd_ H
  obtain ⟨gm,i8,H⟩:=bd_ H
  by_cases g6:gm=true
  rotate_left
  ·replace g6:=Bool.eq_false_iff.mpr g6
   subst g6
   rw [if_neg nf_] at H
   simp only [Option.some.injEq,Prod.mk.injEq] at H
   obtain ⟨rfl,rfl,rfl,rfl,rfl,rfl,rfl⟩:=H
   have io:=bb6_ a5.out
   obtain ⟨ej,ek,gn⟩:=Kd.R_slice HO_289004.out
   subst gn
   obtain ⟨el,em,go⟩:=Kd.R_slice HO_289005.out
   subst go
   go_wp2_with (first|((with_reducible refine gate_callee (f:=52) rfl ?_);refine goesL_ (some 110) rfl rfl Tryz.func52 kr_ rfl #[.agg #[.int .i64 (wrap64 (bt (rdOf ByteArray.empty l0 0) 0)),.int .i64 av,.int .i64 ay,.string a7,.slice ej a9.length ek,.slice el a8.length em]] rfl tq_0 ?_;(with_reducible refine (spec_InodeWords.calls kj24 (wrap64 (bt (rdOf ByteArray.empty l0 0) 0)) av ay a7 _ _ a9 _ _ a8 bn _ ?side1 ?side2 ?side3 ?side4 i7.out).mono ?_);(case side1=>exact tq_96);(case side2=>exact (Kd.R_reads' HO_289004.out).2.1);(case side3=>exact tq_95);(case side4=>exact (Kd.R_reads' HO_289005.out).2.1);rintro e e1 ⟨v316,rfl,ho0,hb⟩;refine ⟨_,rfl,?_⟩;have z_:=p_ (Kd.R_below (raR_ HO_289004) hb) <| p_ (Kd.R_below (raR_ HO_289005) hb) <| p_ (Kd.R_lower ho0 (below_size th_)) <| bw2_ (kb_ a6) (kb_ a5) th_ hb;clear HO_289004 HO_289005 a6 a5 HB;obtain ⟨HO_289004,HO_289005,HO317,a6,a5,HB⟩:=z_;(try clear hb);(try clear ho0);obtain ⟨fa,fb,gp⟩:=Kd.R_slice HO317.out;subst gp)|((with_reducible refine gate_callee (f:=45) rfl ?_);refine goesL_ (some 112) rfl rfl Tryz.func45 kr_ rfl #[.slice fa bn.length fb,.slice (some ab) l0.length c0] rfl tq_0 ?_;(with_reducible refine (spec_l12Words.calls kj24 _ _ bn _ _ l0 false _ ?side1 ?side2 ?side3 ?side4 i8.out).mono ?_);(case side1=>exact tq_101);(case side2=>exact (Kd.R_reads' HO317.out).2.1);(case side3=>exact tq_11);(case side4=>exact hm.out);rintro e w' ⟨rfl,⟨nd,rfl⟩⟩;refine ⟨_,rfl,?_⟩;(try (rw [drewN_self e1];generalize hq_:World.drewN e1 _=e1;have z_:=q_ (⟨(by rw [← hq_];exact (raR_ HO317))⟩:Aside0 (Kd.R Kd.string 9 e1 w.heap.size (fun k_=>True) (.slice fa bn.length fb) bn)) <| q_ (⟨(by rw [← hq_];exact (raR_ HO_289004))⟩:Aside0 (Kd.R k86 86 e1 w.heap.size (fun k_=>True) (.slice ej a9.length ek) a9)) <| q_ (⟨(by rw [← hq_];exact (raR_ HO_289005))⟩:Aside0 (Kd.R k90 90 e1 w.heap.size (fun k_=>True) (.slice el a8.length em) a8)) <| q_ (⟨(by rw [← hq_];exact (kb_ a6))⟩:Aside0 (e1.heap[aj]?=some (.cells #[.int .i64 ae,.int .i64 af,.int .i64 ag,.string ah,.slice none 0 0,.slice none 0 0] 62 (0,0)))) <| q_ (⟨(by rw [← hq_];exact (kb_ a5))⟩:Aside0 (e1.heap[aa]?=some (.cells #[.int .i64 (wrap64 (bt (rdOf ByteArray.empty l0 0) 0)),.int .i64 av,.int .i64 ay,.string a7,.slice ej a9.length ek,.slice el a8.length em] 62 (0,0)))) <| (⟨tq_74⟩:Aside0 (Below w.heap.size w e1));clear HO317 HO_289004 HO_289005 a6 a5 HB hq_;obtain ⟨HO317,HO_289004,HO_289005,a6,a5,HB⟩:=z_));have i9:=bb6_ a6.out))
   refine bodyPost_ret (results_ct rfl _ _ aj 62 #[.int .i64 0,.int .i64 0,.int .i64 0,.string (⟨#[]⟩:ByteArray),.slice none 0 0,.slice none 0 0] (0,0) _ rfl tb_ Tryz.underlying62 rfl kr_) rfl ?_
   exact ⟨_,_,tq_1,tq_5,tq_5,th_⟩
  subst g6
  rw [if_pos rfl] at H
  simp only [Option.some.injEq,Prod.mk.injEq] at H
  obtain ⟨rfl,rfl,rfl,rfl,rfl,rfl,rfl⟩:=H
  have ip:=bb6_ a5.out
  obtain ⟨e2,e3,gq⟩:=Kd.R_slice HO_289004.out
  subst gq
  obtain ⟨e4,e5,gr⟩:=Kd.R_slice HO_289005.out
  subst gr
  go_wp2_with (first|((with_reducible refine gate_callee (f:=52) rfl ?_);refine goesL_ (some 110) rfl rfl Tryz.func52 kr_ rfl #[.agg #[.int .i64 (wrap64 (bt (rdOf ByteArray.empty l0 0) 0)),.int .i64 av,.int .i64 ay,.string a7,.slice e2 a9.length e3,.slice e4 a8.length e5]] rfl tq_0 ?_;(with_reducible refine (spec_InodeWords.calls kj24 (wrap64 (bt (rdOf ByteArray.empty l0 0) 0)) av ay a7 _ _ a9 _ _ a8 bn _ ?side1 ?side2 ?side3 ?side4 i7.out).mono ?_);(case side1=>exact tq_96);(case side2=>exact (Kd.R_reads' HO_289004.out).2.1);(case side3=>exact tq_95);(case side4=>exact (Kd.R_reads' HO_289005.out).2.1);rintro e e6 ⟨v316,rfl,ho0,hb⟩;refine ⟨_,rfl,?_⟩;have z_:=p_ (Kd.R_below (raR_ HO_289004) hb) <| p_ (Kd.R_below (raR_ HO_289005) hb) <| p_ (Kd.R_lower ho0 (below_size th_)) <| bw2_ (kb_ a6) (kb_ a5) th_ hb;clear HO_289004 HO_289005 a6 a5 HB;obtain ⟨HO_289004,HO_289005,HO317,a6,a5,HB⟩:=z_;(try clear hb);(try clear ho0);obtain ⟨fc,fd,gs⟩:=Kd.R_slice HO317.out;subst gs)|((with_reducible refine gate_callee (f:=45) rfl ?_);refine goesL_ (some 112) rfl rfl Tryz.func45 kr_ rfl #[.slice fc bn.length fd,.slice (some ab) l0.length c0] rfl tq_0 ?_;(with_reducible refine (spec_l12Words.calls kj24 _ _ bn _ _ l0 true _ ?side1 ?side2 ?side3 ?side4 i8.out).mono ?_);(case side1=>exact tq_101);(case side2=>exact (Kd.R_reads' HO317.out).2.1);(case side3=>exact tq_11);(case side4=>exact hm.out);rintro e w' ⟨rfl,⟨nd,rfl⟩⟩;refine ⟨_,rfl,?_⟩;(try (rw [drewN_self e6];generalize hq_:World.drewN e6 _=e6;have z_:=q_ (⟨(by rw [← hq_];exact (raR_ HO317))⟩:Aside0 (Kd.R Kd.string 9 e6 w.heap.size (fun k_=>True) (.slice fc bn.length fd) bn)) <| q_ (⟨(by rw [← hq_];exact (raR_ HO_289004))⟩:Aside0 (Kd.R k86 86 e6 w.heap.size (fun k_=>True) (.slice e2 a9.length e3) a9)) <| q_ (⟨(by rw [← hq_];exact (raR_ HO_289005))⟩:Aside0 (Kd.R k90 90 e6 w.heap.size (fun k_=>True) (.slice e4 a8.length e5) a8)) <| q_ (⟨(by rw [← hq_];exact (kb_ a6))⟩:Aside0 (e6.heap[aj]?=some (.cells #[.int .i64 ae,.int .i64 af,.int .i64 ag,.string ah,.slice none 0 0,.slice none 0 0] 62 (0,0)))) <| q_ (⟨(by rw [← hq_];exact (kb_ a5))⟩:Aside0 (e6.heap[aa]?=some (.cells #[.int .i64 (wrap64 (bt (rdOf ByteArray.empty l0 0) 0)),.int .i64 av,.int .i64 ay,.string a7,.slice e2 a9.length e3,.slice e4 a8.length e5] 62 (0,0)))) <| (⟨tq_74⟩:Aside0 (Below w.heap.size w e6));clear HO317 HO_289004 HO_289005 a6 a5 HB hq_;obtain ⟨HO317,HO_289004,HO_289005,a6,a5,HB⟩:=z_));have iq:=bb6_ a5.out;have ir:=bb6_ a6.out))
  refine bodyPost_ret (results_ct rfl _ _ aj 62 #[.int .i64 (wrap64 (bt (rdOf ByteArray.empty l0 0) 0)),.int .i64 av,.int .i64 ay,.string a7,.slice e2 a9.length e3,.slice e4 a8.length e5] (0,0) _ rfl tb_ Tryz.underlying62 rfl kr_) rfl ?_
  exact ⟨_,_,tq_1,(by (with_reducible repeat (first|apply Kd.R_alloc|apply Kd.R_drewN|apply Kd.R_drew));exact Kd.R_mono (rR_ (rR_ (rR_ (rR_ (rR_ (rR_ (Kd.R_types HO_289004.out a6.out (by decide)))))))) (fun _ hk=>trivial)),(by (with_reducible repeat (first|apply Kd.R_alloc|apply Kd.R_drewN|apply Kd.R_drew));exact Kd.R_mono (rR_ (rR_ (rR_ (rR_ (rR_ (rR_ (Kd.R_types HO_289005.out a6.out (by decide)))))))) (fun _ hk=>trivial)),th_⟩
 subst f9
 rw [if_pos rfl] at H
 have en:=m_ H
 clear H
 have fe:=bb6_ a5.out
 go_upto_if 71 with (fail)
 go_cut [] (fun wc=>∃ (kq:Nat) (ap:Int) (aq:Int) (ar:Int) (au:ByteArray) (ai:List (S86)) (u289004:Value),Aside0 (spec_ReadInode.j4 kq l0 bq ac (wrap64 (bt (rdOf ByteArray.empty l0 0) 0)) av ay a7 ai a8=some (r1,r2,r3,r4,r5,r6,r7))∧Aside0 (kq≤kj24)∧Aside0 (Kd.R k86 86 wc w.heap.size (fun _=>True) u289004 ai)∧Aside0 (Kd.R k90 90 wc w.heap.size (fun _=>True) u289005 a8)∧Aside0 (wc.heap[aj]?=some (.cells #[.int .i64 ap,.int .i64 aq,.int .i64 ar,.string au,(.slice none 0 0),(.slice none 0 0)] 62 (0,0)))∧Aside0 (wc.heap[aa]?=some (.cells #[.int .i64 (wrap64 (bt (rdOf ByteArray.empty l0 0) 0)),.int .i64 av,.int .i64 ay,.string a7,u289004,u289005] 62 (0,0)))∧Aside0 (Below w.heap.size w wc))
 case first =>
  have H:=en.out
  clear en
  by_cases eb:(wrap64 (bt (rdOf ByteArray.empty l0 0) 0))=1
  rotate_left
  ·rw [if_neg eb] at H
   have bo:=qc_ eb
   have ec:=qd_ eb
   (first|rw [bo]|(simp only [i64_w,i32_w];rw [bo])|skip)
   have H':=m_ H
   clear H
   go_wp2
   go_meet
   case rel=>exact ⟨_,(ae),(af),(ag),(ah),(a9),(u289004),H',⟨(by have:=HK1.out;have:=HJ14.out;have:=HK3.out;have:=HJ24.out;first|omega|exact Nat.le_refl _)⟩,⟨(raR_ HO_289004)⟩,⟨(raR_ HO_289005)⟩,⟨(kb_ a6)⟩,⟨(kb_ a5)⟩,⟨th_⟩⟩
  rw [if_pos eb] at H
  have bo:=qa_ eb
  have ec:=qb_ eb
  clear eb
  (first|rw [bo]|(simp only [i64_w,i32_w];rw [bo])|skip)
  obtain ⟨gt,H⟩:=fc_ H
  have ff:=de_ gt
  clear gt
  obtain ⟨gu,H⟩:=fc_ H
  have fg:=de_ gu
  clear gu
  obtain ⟨⟨bz,ca,cb,gv⟩,ia,H⟩:=bd_ H
  try dsimp -simprocs only at H
  by_cases fh:gv=true
  rotate_left
  ·replace fh:=Bool.eq_false_iff.mpr fh
   subst fh
   rw [if_neg nf_] at H
   simp only [Option.some.injEq,Prod.mk.injEq] at H
   obtain ⟨rfl,rfl,rfl,rfl,rfl,rfl,rfl⟩:=H
   have cc:0≤(ac:Int):=od_ tq_2
   have cd:ac < (l0.length:Int):=od_ tq_2
   obtain ⟨dg,eo,b1⟩:=Kd.at_string HR0.out ac cc cd
   obtain rfl:ab=dg:=(by injection eo)
   replace b1:=hx_ HB.out b1
   replace cc:=eq_true cc
   replace cd:=eq_true cd
   go_wp2_with (first|((with_reducible refine gate_callee (f:=50) rfl ?_);refine goesL_ (some 77) rfl rfl Tryz.func50 kr_ rfl #[.string (rdOf ByteArray.empty l0 ac)] rfl tq_0 ?_;(with_reducible refine (spec_ReadRec.calls kj24 (rdOf ByteArray.empty l0 ac) bz ca cb false _ ia.out).mono ?_);rintro e ja ⟨rfl,hb⟩;refine ⟨_,rfl,?_⟩;have z_:=p_ (Kd.R_below (raR_ HO_289004) hb) <| p_ (Kd.R_below (raR_ HO_289005) hb) <| bw2_ (kb_ a6) (kb_ a5) th_ hb;clear HO_289004 HO_289005 a6 a5 HB;obtain ⟨HO_289004,HO_289005,a6,a5,HB⟩:=z_;(try clear hb);(try clear hk))|((with_reducible refine gate_dst (N:=8) rfl ?_);refine be_ 8 (cs:=#[.int .i64 0,.int .i64 0,.string (⟨#[]⟩:ByteArray)]) 86 ?_;intro bd hg jb hbox hb;have z_:=p_ (Kd.R_below (Kd.R_elderB (raR_ HO_289004) bd (Nat.le_of_eq hg.symm)) hb) <| p_ (Kd.R_below (raR_ HO_289005) hb) <| bx2_ (kb_ a6) (kb_ a5) th_ hb hbox hg;clear HO_289004 HO_289005 a6 a5 HB;obtain ⟨HO_289004,HO_289005,a6,a5,HB,bl,fi,fj,b2,b9,b3,ba⟩:=z_;clear hb hbox hg;obtain ⟨dh,di,dj,dk⟩:=an4_ b9 b2 ba b3;have fk:=bb3_ bl.out;obtain ⟨bs,br⟩:=an2_ b0 b8;have fl:=bb6_ a6.out))
   refine bodyPost_ret (results_ct rfl _ _ aj 62 #[.int .i64 0,.int .i64 0,.int .i64 0,.string (⟨#[]⟩:ByteArray),.slice none 0 0,.slice none 0 0] (0,0) _ rfl tb_ Tryz.underlying62 rfl kr_) rfl ?_
   exact ⟨_,_,tq_1,tq_5,tq_5,th_⟩
  subst fh
  rw [if_pos rfl] at H
  obtain ⟨gw,H⟩:=fc_ H
  have fm:=m_ gw
  clear gw
  obtain ⟨ep,dl⟩:∃ y_:List (S86),y_=(a9++[(⟨bz,ca,cb⟩:S86)]):=⟨_,rfl⟩
  replace H:(spec_ReadInode.j4 kj24 l0 bq ac (wrap64 (bt (rdOf ByteArray.empty l0 0) 0)) av ay a7 ep a8)=some (r1,r2,r3,r4,r5,r6,r7):=rh_ dl H
  have fn:=m_ dl
  clear dl
  have H':=m_ H
  clear H
  have cc:0≤(ac:Int):=od_ tq_2
  have cd:ac < (l0.length:Int):=od_ tq_2
  obtain ⟨dg,eo,b1⟩:=Kd.at_string HR0.out ac cc cd
  obtain rfl:ab=dg:=(by injection eo)
  replace b1:=hx_ HB.out b1
  replace cc:=eq_true cc
  replace cd:=eq_true cd
  go_wp2_with (first|((with_reducible refine gate_callee (f:=50) rfl ?_);refine goesL_ (some 77) rfl rfl Tryz.func50 kr_ rfl #[.string (rdOf ByteArray.empty l0 ac)] rfl tq_0 ?_;(with_reducible refine (spec_ReadRec.calls kj24 (rdOf ByteArray.empty l0 ac) bz ca cb true _ ia.out).mono ?_);rintro e jc ⟨rfl,hb⟩;refine ⟨_,rfl,?_⟩;have z_:=p_ (Kd.R_below (raR_ HO_289004) hb) <| p_ (Kd.R_below (raR_ HO_289005) hb) <| bw2_ (kb_ a6) (kb_ a5) th_ hb;clear HO_289004 HO_289005 a6 a5 HB;obtain ⟨HO_289004,HO_289005,a6,a5,HB⟩:=z_;(try clear hb))|((with_reducible refine gate_dst (N:=8) rfl ?_);refine be_ 8 (cs:=#[.int .i64 0,.int .i64 0,.string (⟨#[]⟩:ByteArray)]) 86 ?_;intro bd hg jd hbox hb;have z_:=p_ (Kd.R_below (Kd.R_elderB (raR_ HO_289004) bd (Nat.le_of_eq hg.symm)) hb) <| p_ (Kd.R_below (raR_ HO_289005) hb) <| bx2_ (kb_ a6) (kb_ a5) th_ hb hbox hg;clear HO_289004 HO_289005 a6 a5 HB;obtain ⟨HO_289004,HO_289005,a6,a5,HB,bl,fi,fj,b2,b9,b3,ba⟩:=z_;clear hb hbox hg;obtain ⟨dh,di,dj,dk⟩:=an4_ b9 b2 ba b3;have fo:=bb3_ bl.out;obtain ⟨br,bs⟩:=an2_ b8 b0;have fp:=bb6_ a5.out)|((with_reducible refine gate_builtin (b:=.append) (xs:=#[.tmp 84,.tmp 86]) rfl ?_);at_builtin;refine Kd.R_append k86 (w0:=w) w.heap.size rfl (.tmp 84) (.tmp 86) 59 86 (.agg #[(.int .i64 0),(.int .i64 0),(.string ⟨#[]⟩)]) 32 rfl Tryz.underlying59 info86 rfl (by decide) (by omega) u289004 a9 (⟨bz,ca,cb⟩:S86) [.int .i64 bz,.int .i64 ca,.string cb] (fun k_=>k_≠bd) (fun _=>False) rfl (by first|(go_simp;done)|(go_simp;rfl)) ?aP (fun _ hk=>hk.elim) ?aF ?aO ?aB ?aS ?aL ?_;(case aP=>exact k86_mkM _ _ _ (⟨bz,ca,cb⟩:S86));(case aB=>exact th_);(case aF=>exact (fun k_ hk=>Kd.freshB (g:=bd) (o:=.cells #[.int .i64 bz,.int .i64 ca,.string cb] 86 (0,0)) tb_ k_ hk));(case aO=>exact (by (with_reducible repeat (first|apply Kd.R_alloc|apply Kd.R_drewN|apply Kd.R_drew));exact Kd.R_mono (rR_ (rR_ (rR_ (Kd.R_mono HO_289004.out (fun k_ hk=>(⟨hk,hk.2⟩:_∧k_≠bd)))))) (fun _ hk=>hk.1.2)));(case aS=>exact (below_size th_));(case aL=>have:=fm.out;omega);intro v305 je ho hb hg hat;rw [← fn.out] at ho;have z_:=p_ (Kd.R_over' (by (with_reducible repeat (first|apply Kd.R_alloc|apply Kd.R_drewN|apply Kd.R_drew));exact (Kd.R_mono (rR_ (rR_ (rR_ (Kd.R_types HO_289005.out bl.out (by decide))))) (fun _ h_=>h_.1))) (Kd.R_typed (by (with_reducible repeat (first|apply Kd.R_alloc|apply Kd.R_drewN|apply Kd.R_drew));exact (Kd.R_mono (rR_ (rR_ (rR_ (Kd.R_mono HO_289004.out (fun k_ hk=>(⟨hk,hk.2⟩:_∧k_≠bd)))))) (fun _ h_=>h_.1)))) (by decide) hg) <| p_ (blk_grown (g:=aj) (o:=.cells #[.int .i64 ae,.int .i64 af,.int .i64 ag,.string ah,.slice none 0 0,.slice none 0 0] 62 (0,0)) (fr_ a6.out b2.out) hg (Kd.R_ne HO_289004.out a6.out (by decide))) <| p_ (blk_grown (g:=aa) (o:=.cells #[.int .i64 (wrap64 (bt (rdOf ByteArray.empty l0 0) 0)),.int .i64 av,.int .i64 ay,.string a7,u289004,u289005] 62 (0,0)) (fr_ a5.out b3.out) hg (Kd.R_ne HO_289004.out a5.out (by decide))) <| p_ (blk_grown (g:=bd) (o:=.cells #[.int .i64 bz,.int .i64 ca,.string cb] 86 (0,0)) (pt_ bl.out) hg (Kd.R_away HO_289004.out (fun _ hk=>hk.2))) <| p_ (hb) <| a_ (ho);clear HO_289005 a6 a5 bl HB HO_289004;obtain ⟨HO_289005,a6,a5,bl,HB,ed⟩:=z_;clear ho hb hg hat;obtain ⟨gx,gy,gz⟩:=Kd.R_slice ed.out;subst gz;have fq:=bb6_ a5.out))
  go_meet
  case rel=>exact ⟨_,(ae),(af),(ag),(ah),(ep),(.slice gx ep.length gy),H',⟨(by have:=HK1.out;have:=HJ14.out;have:=HK3.out;have:=HJ24.out;first|omega|exact Nat.le_refl _)⟩,⟨(by (with_reducible repeat (first|apply Kd.R_alloc|apply Kd.R_drewN|apply Kd.R_drew));exact Kd.R_mono (rR_ (Kd.R_types ed.out a5.out (by decide))) (fun _ hk=>trivial))⟩,⟨(by (with_reducible repeat (first|apply Kd.R_alloc|apply Kd.R_drewN|apply Kd.R_drew));exact Kd.R_mono (rR_ (Kd.R_types HO_289005.out a5.out (by decide))) (fun _ hk=>trivial))⟩,⟨tb_⟩,⟨tb_⟩,⟨th_⟩⟩
 case rest =>
 clear en
 try clear c1;try clear p1;try clear q1;try clear hx1;try clear ge;try clear c2;try clear d8;try clear d9;try clear p2;try clear q2;try clear hx2;try clear gf;try clear c3;try clear c4;try clear da;try clear c5;try clear dv;try clear c6;try clear dw;try clear p6;try clear c7;try clear db;try clear dc;try clear c9;try clear dx;try clear dy;try clear et;try clear cq;try clear cr;try clear dz;try clear du;try clear hx11;try clear e0;try clear gh;try clear dd;try clear b6;try clear bw;try clear eu;try clear d6;try clear d7;try clear gi;try clear e8;try clear bj;try clear fy;try clear e9;try clear fz;try clear ea;try clear i5;try clear i6;try clear hx28;try clear gl;try clear f9;try clear jf;try clear jg;try clear hx29;try clear iu;try clear jh;try clear eb;try clear bo;try clear ec;try clear gt;try clear ff;try clear gu;try clear fg;try clear fh;try clear gw;try clear ji;try clear jj;try clear jk;try clear jl;try clear jm;try clear jn;try clear jo;try clear jp;try clear bu;try clear bv;try clear bx;try clear fe;try clear fo;try clear fp;try clear fq;try clear fk;try clear fl;try clear e7;try clear bu;try clear bv;try clear bx;try clear fe;try clear fo;try clear fp;try clear fq;try clear fk;try clear fl;try clear e7;try clear ak;try clear aw;try clear hx289_0;try clear hx292_0;try clear ax;try clear bg;try clear b1;try clear p1;try clear dz;try clear p2;try clear i5;try clear bh;try clear cg;try clear ci;try clear ck;try clear cm;try clear de;try clear cc;try clear p6;try clear q1;try clear du;try clear q2;try clear i6;try clear bi;try clear ch;try clear cj;try clear cl;try clear cn;try clear df;try clear cd
 obtain ⟨kq,ap,aq,ar,au,ai,u289004,HA,HJ29,HO_289004,HO_289005,a6,a5,HB⟩:=hcut
 cases kq with
 | zero=>exact absurd HA.out (by simp [spec_ReadInode.j4])
 | succ kj29 =>
 have H:=HA.out
 clear HA
 simp only [spec_ReadInode.j4] at H
 by_cases eq:(wrap64 (bt (rdOf ByteArray.empty l0 0) 0))=2
 rotate_left
 ·rw [if_neg eq] at H
  have fr:=qc_ eq
  have fs:=qd_ eq
  have H':=m_ H
  clear H
  have iv:=bb6_ a5.out
  go_wp2
  go_roundg kj29
  case measure=>have:=HK1.out;have:=HJ14.out;have:=HK3.out;have:=HJ24.out;have:=HJ29.out;omega
  case rel=>exact ⟨(wrap64 (ac+1)),(ap),(aq),(ar),(au),(ai),(a8),(u289004),(u289005),tq_3,H',⟨(by have:=HK1.out;have:=HJ14.out;have:=HK3.out;have:=HJ24.out;have:=HJ29.out;omega)⟩,⟨(raR_ HO_289004)⟩,⟨(raR_ HO_289005)⟩,⟨(kb_ a6)⟩,⟨(kb_ a5)⟩,⟨th_⟩⟩
 rw [if_pos eq] at H
 have fr:=qa_ eq
 have fs:=qb_ eq
 clear eq
 obtain ⟨ib,H⟩:=fc_ H
 have ic:=de_ ib
 clear ib
 obtain ⟨id,H⟩:=fc_ H
 have ie:=de_ id
 clear id
 obtain ⟨⟨ce,cf,h8⟩,ig,H⟩:=bd_ H
 try dsimp -simprocs only at H
 by_cases g7:h8=true
 rotate_left
 ·replace g7:=Bool.eq_false_iff.mpr g7
  subst g7
  rw [if_neg nf_] at H
  simp only [Option.some.injEq,Prod.mk.injEq] at H
  obtain ⟨rfl,rfl,rfl,rfl,rfl,rfl,rfl⟩:=H
  have iw:=bb6_ a5.out
  have co:0≤(ac:Int):=od_ tq_2
  have cp:ac < (l0.length:Int):=od_ tq_2
  obtain ⟨dm,er,b7⟩:=Kd.at_string HR0.out ac co cp
  obtain rfl:ab=dm:=(by injection er)
  replace b7:=hx_ HB.out b7
  replace co:=eq_true co
  replace cp:=eq_true cp
  go_wp2_with (first|((with_reducible refine gate_callee (f:=51) rfl ?_);refine goesL_ (some 97) rfl rfl Tryz.func51 kr_ rfl #[.string (rdOf ByteArray.empty l0 ac)] rfl tq_0 ?_;(with_reducible refine (spec_ReadEntry.calls kj29 (rdOf ByteArray.empty l0 ac) ce cf false _ ig.out).mono ?_);rintro e jq ⟨rfl,hb⟩;refine ⟨_,rfl,?_⟩;have z_:=p_ (Kd.R_below (raR_ HO_289004) hb) <| p_ (Kd.R_below (raR_ HO_289005) hb) <| bw2_ (kb_ a6) (kb_ a5) th_ hb;clear HO_289004 HO_289005 a6 a5 HB;obtain ⟨HO_289004,HO_289005,a6,a5,HB⟩:=z_;(try clear hb))|((with_reducible refine gate_dst (N:=10) rfl ?_);refine be_ 10 (cs:=#[.int .i64 0,.string (⟨#[]⟩:ByteArray)]) 90 ?_;intro be hg jr hbox hb;have z_:=p_ (Kd.R_below (raR_ HO_289004) hb) <| p_ (Kd.R_below (Kd.R_elderB (raR_ HO_289005) be (Nat.le_of_eq hg.symm)) hb) <| bx2_ (kb_ a6) (kb_ a5) th_ hb hbox hg;clear HO_289004 HO_289005 a6 a5 HB;obtain ⟨HO_289004,HO_289005,a6,a5,HB,bm,ft,fu,b4,bb,b5,bc⟩:=z_;clear hb hbox hg;obtain ⟨dn,dp,dq,dr⟩:=an4_ bb b4 bc b5;have ix:=bb2_ bm.out;have iy:=bb6_ a6.out))
  refine bodyPost_ret (results_ct rfl _ _ aj 62 #[.int .i64 0,.int .i64 0,.int .i64 0,.string (⟨#[]⟩:ByteArray),.slice none 0 0,.slice none 0 0] (0,0) _ rfl tb_ Tryz.underlying62 rfl kr_) rfl ?_
  exact ⟨_,_,tq_1,tq_5,tq_5,th_⟩
 subst g7
 rw [if_pos rfl] at H
 obtain ⟨ii,H⟩:=fc_ H
 have fw:=m_ ii
 clear ii
 obtain ⟨es,dt⟩:∃ y_:List (S90),y_=(a8++[(⟨ce,cf⟩:S90)]):=⟨_,rfl⟩
 replace H:(spec_ReadInode.l1 kj29 l0 bq (wrap64 (ac+1)) (wrap64 (bt (rdOf ByteArray.empty l0 0) 0)) av ay a7 ai es)=some (r1,r2,r3,r4,r5,r6,r7):=rh_ dt H
 have fx:=m_ dt
 clear dt
 have H':=m_ H
 clear H
 have iz:=bb6_ a5.out
 have co:0≤(ac:Int):=od_ tq_2
 have cp:ac < (l0.length:Int):=od_ tq_2
 obtain ⟨dm,er,b7⟩:=Kd.at_string HR0.out ac co cp
 obtain rfl:ab=dm:=(by injection er)
 replace b7:=hx_ HB.out b7
 replace co:=eq_true co
 replace cp:=eq_true cp
 go_wp2_with (first|((with_reducible refine gate_callee (f:=51) rfl ?_);refine goesL_ (some 97) rfl rfl Tryz.func51 kr_ rfl #[.string (rdOf ByteArray.empty l0 ac)] rfl tq_0 ?_;(with_reducible refine (spec_ReadEntry.calls kj29 (rdOf ByteArray.empty l0 ac) ce cf true _ ig.out).mono ?_);rintro e js ⟨rfl,hb⟩;refine ⟨_,rfl,?_⟩;have z_:=p_ (Kd.R_below (raR_ HO_289004) hb) <| p_ (Kd.R_below (raR_ HO_289005) hb) <| bw2_ (kb_ a6) (kb_ a5) th_ hb;clear HO_289004 HO_289005 a6 a5 HB;obtain ⟨HO_289004,HO_289005,a6,a5,HB⟩:=z_;(try clear hb))|((with_reducible refine gate_dst (N:=10) rfl ?_);refine be_ 10 (cs:=#[.int .i64 0,.string (⟨#[]⟩:ByteArray)]) 90 ?_;intro be hg jt hbox hb;have z_:=p_ (Kd.R_below (raR_ HO_289004) hb) <| p_ (Kd.R_below (Kd.R_elderB (raR_ HO_289005) be (Nat.le_of_eq hg.symm)) hb) <| bx2_ (kb_ a6) (kb_ a5) th_ hb hbox hg;clear HO_289004 HO_289005 a6 a5 HB;obtain ⟨HO_289004,HO_289005,a6,a5,HB,bm,ft,fu,b4,bb,b5,bc⟩:=z_;clear hb hbox hg;obtain ⟨dn,dp,dq,dr⟩:=an4_ bb b4 bc b5;have j5:=bb2_ bm.out;have j6:=bb6_ a5.out)|((with_reducible refine gate_builtin (b:=.append) (xs:=#[.tmp 104,.tmp 106]) rfl ?_);at_builtin;refine Kd.R_append k90 (w0:=w) w.heap.size rfl (.tmp 104) (.tmp 106) 60 90 (.agg #[(.int .i64 0),(.string ⟨#[]⟩)]) 24 rfl Tryz.underlying60 info90 rfl (by decide) (by omega) u289005 a8 (⟨ce,cf⟩:S90) [.int .i64 ce,.string cf] (fun k_=>k_≠be) (fun _=>False) rfl (by first|(go_simp;done)|(go_simp;rfl)) ?aP (fun _ hk=>hk.elim) ?aF ?aO ?aB ?aS ?aL ?_;(case aP=>exact k90_mkM _ _ _ (⟨ce,cf⟩:S90));(case aB=>exact th_);(case aF=>exact (fun k_ hk=>Kd.freshB (g:=be) (o:=.cells #[.int .i64 ce,.string cf] 90 (0,0)) tb_ k_ hk));(case aO=>exact (by (with_reducible repeat (first|apply Kd.R_alloc|apply Kd.R_drewN|apply Kd.R_drew));exact Kd.R_mono (rR_ (rR_ (Kd.R_mono HO_289005.out (fun k_ hk=>(⟨hk,hk.2⟩:_∧k_≠be))))) (fun _ hk=>hk.1.2)));(case aS=>exact (below_size th_));(case aL=>have:=fw.out;omega);intro v313 ju ho hb hg hat;rw [← fx.out] at ho;have z_:=p_ (Kd.R_over' (by (with_reducible repeat (first|apply Kd.R_alloc|apply Kd.R_drewN|apply Kd.R_drew));exact (Kd.R_mono (rR_ (rR_ (Kd.R_types HO_289004.out bm.out (by decide)))) (fun _ h_=>h_.1))) (Kd.R_typed (by (with_reducible repeat (first|apply Kd.R_alloc|apply Kd.R_drewN|apply Kd.R_drew));exact (Kd.R_mono (rR_ (rR_ (Kd.R_mono HO_289005.out (fun k_ hk=>(⟨hk,hk.2⟩:_∧k_≠be))))) (fun _ h_=>h_.1)))) (by decide) hg) <| p_ (blk_grown (g:=aj) (o:=.cells #[.int .i64 ap,.int .i64 aq,.int .i64 ar,.string au,.slice none 0 0,.slice none 0 0] 62 (0,0)) (fr_ a6.out b4.out) hg (Kd.R_ne HO_289005.out a6.out (by decide))) <| p_ (blk_grown (g:=aa) (o:=.cells #[.int .i64 (wrap64 (bt (rdOf ByteArray.empty l0 0) 0)),.int .i64 av,.int .i64 ay,.string a7,u289004,u289005] 62 (0,0)) (fr_ a5.out b5.out) hg (Kd.R_ne HO_289005.out a5.out (by decide))) <| p_ (blk_grown (g:=be) (o:=.cells #[.int .i64 ce,.string cf] 90 (0,0)) (pt_ bm.out) hg (Kd.R_away HO_289005.out (fun _ hk=>hk.2))) <| p_ (hb) <| a_ (ho);clear HO_289004 a6 a5 bm HB HO_289005;obtain ⟨HO_289004,a6,a5,bm,HB,ee⟩:=z_;clear ho hb hg hat;obtain ⟨h9,hf,hh⟩:=Kd.R_slice ee.out;subst hh;have j7:=bb6_ a5.out))
 go_roundg kj29
 case measure=>have:=HK1.out;have:=HJ14.out;have:=HK3.out;have:=HJ24.out;have:=HJ29.out;omega
 case rel=>exact ⟨(wrap64 (ac+1)),(ap),(aq),(ar),(au),(ai),(es),(u289004),(.slice h9 es.length hf),tq_3,H',⟨(by have:=HK1.out;have:=HJ14.out;have:=HK3.out;have:=HJ24.out;have:=HJ29.out;omega)⟩,⟨(by (with_reducible repeat (first|apply Kd.R_alloc|apply Kd.R_drewN|apply Kd.R_drew));exact Kd.R_mono (rR_ (Kd.R_types HO_289004.out a5.out (by decide))) (fun _ hk=>trivial))⟩,⟨(by (with_reducible repeat (first|apply Kd.R_alloc|apply Kd.R_drewN|apply Kd.R_drew));exact Kd.R_mono (rR_ (Kd.R_types ee.out a5.out (by decide))) (fun _ hk=>trivial))⟩,⟨tb_⟩,⟨tb_⟩,⟨th_⟩⟩

end Go.Proofs.YtleoknilacjakaaGreatDoor.PFnExactReadPart
