/- Contracts of Go functions: each call returns what the Lean function beside it computes. Conditions: as each theorem states them. -/
import Derived.Test.YtleoknilacjakaaGreatDoorPkFnExactReadPart
import Derived.Test.YtleoknilacjakaaGreatDoorPFnExactReadPartx3
import Derived.Test.YtleoknilacjakaaGreatDoorPFnExactReadPartx6
import Derived.Test.YtleoknilacjakaaGreatDoorPFnExactReadPartx9
namespace Go.Proofs.YtleoknilacjakaaGreatDoor.PFnExactReadPart
open Go.RowKit Go.Proofs.YtleoknilacjakaaGreatDoorW.PrintWords Go.Proofs.YtleoknilacjakaaGreatDoorW.PrintLast Go.Proofs.YtleoknilacjakaaGreatDoorW.PrintMore
attribute [local go_sem] max2_int min2_int max_two min_two max_three min_three max_four min_four setCell_drewN   -- for this text's walks alone
set_option linter.unusedVariables false
set_option maxHeartbeats 8000000
set_option maxRecDepth 100000
set_option linter.unusedSimpArgs false

def spec_InodeAt.f (a6:Int) (a7:Int) (a5:Int) (a8:Int) (a1:Int) (a2:Int):Option (Int):=(spec_GeoOk.f a6 a7 a5 a8).bind fun a9=>(if a9=true then ((spec_l01In.f a2 0 (wrap64 (a5 - 1))).bind fun aa=>(if aa=true then ((spec_l11At.f a6 a7 a5 a8 a1 (wrap64 (38+(wrap64 (8 * a2))))).bind fun ab=>(some ab)) else (some (-1)))) else (some (-1)))
theorem spec_InodeAt.calls (a7:Int) (a8:Int) (a6:Int) (a9:Int) (a1:Int) (a2:Int) (r:Int) (w:World) (h:spec_InodeAt.f a7 a8 a6 a9 a1 a2=some r) :
  Calls Tryz.prog 27 #[.agg #[.int .i64 a7,.int .i64 a8,.int .i64 a6,.int .i64 a9],.int .i64 a1,.int .i64 a2] w fun e w'=>e=.returned (.int .i64 r)∧Below w.heap.size w w':=by
 have hu38:=Tryz.underlying38
 have HB:=m_ (Below.refl w.heap.size w)
 unfold spec_InodeAt.f at h
 have H:=h
 clear h
 obtain ⟨ah,A4,H⟩:=bd_ H
 by_cases c5:ah=true
 rotate_left
 ·replace c5:=Bool.eq_false_iff.mpr c5
  subst c5
  rw [if_neg nf_] at H
  obtain rfl:=oi_ H
  go_enter Tryz.func27,Tryz.ntmps27
  go_wp2_with (first|((with_reducible refine gate_dst (N:=3) rfl ?_);refine be_ 3 (cs:=#[.int .i64 a7,.int .i64 a8,.int .i64 a6,.int .i64 a9]) 38 ?_;intro aa hg ao hbox hb;have z_:=bx0_ th_ hb hbox hg;clear HB;obtain ⟨HB,a5,ab,ac⟩:=z_;clear hb hbox hg;have al:=bb4_ a5.out)|((with_reducible refine gate_callee (f:=43) rfl ?_);refine goesL_ (some 8) rfl rfl Tryz.func43 kr_ rfl #[.agg #[.int .i64 a7,.int .i64 a8,.int .i64 a6,.int .i64 a9]] rfl tq_0 ?_;(with_reducible refine (spec_GeoOk.calls a7 a8 a6 a9 false _ A4.out).mono ?_);rintro e ap ⟨rfl,hb⟩;refine ⟨_,rfl,?_⟩;have z_:=bw1_ (kb_ a5) th_ hb;clear a5 HB;obtain ⟨a5,HB⟩:=z_;(try clear hb)))
  go_ret
  exact ⟨tq_1,th_⟩
 subst c5
 rw [if_pos rfl] at H
 obtain ⟨ae,A6,H⟩:=bd_ H
 have aj:=m_ H
 clear H
 go_enter Tryz.func27,Tryz.ntmps27
 go_upto_if 17 with (first|((with_reducible refine gate_dst (N:=3) rfl ?_);refine be_ 3 (cs:=#[.int .i64 a7,.int .i64 a8,.int .i64 a6,.int .i64 a9]) 38 ?_;intro aa hg w8 hbox hb;have z_:=bx0_ th_ hb hbox hg;clear HB;obtain ⟨HB,a5,ab,ac⟩:=z_;clear hb hbox hg;have ak:=bb4_ a5.out)|((with_reducible refine gate_callee (f:=43) rfl ?_);refine goesL_ (some 8) rfl rfl Tryz.func43 kr_ rfl #[.agg #[.int .i64 a7,.int .i64 a8,.int .i64 a6,.int .i64 a9]] rfl tq_0 ?_;(with_reducible refine (spec_GeoOk.calls a7 a8 a6 a9 true _ A4.out).mono ?_);rintro e aq ⟨rfl,hb⟩;refine ⟨_,rfl,?_⟩;have z_:=bw1_ (kb_ a5) th_ hb;clear a5 HB;obtain ⟨a5,HB⟩:=z_;(try clear hb);have af:=bb4_ a5.out)|(go_at_call 42;(with_reducible refine (spec_l01In.calls a2 0 (wrap64 (a6 - 1)) ae _ A6.out).mono ?_);rintro e w' ⟨rfl,⟨nd,rfl⟩⟩))
 (try simp only [Act.put,List.setIfInBounds_toArray,List.set_cons_zero,List.set_cons_succ])
 (try clear af)
 (try clear ak)
 (try clear af)
 (try clear ak)
 have H:=aj.out
 clear aj
 by_cases ag:ae=true
 rotate_left
 ·replace ag:=Bool.eq_false_iff.mpr ag
  subst ag
  rw [if_neg nf_] at H
  obtain rfl:=oi_ H
  go_wp2
  go_ret
  exact ⟨tq_1,th_⟩
 subst ag
 rw [if_pos rfl] at H
 obtain ⟨ai,am,H⟩:=bd_ H
 obtain rfl:=oi_ H
 have an:=bb4_ a5.out
 go_wp2_with (first|((with_reducible refine gate_callee (f:=24) rfl ?_);refine goesL_ (some 23) rfl rfl Tryz.func24 kr_ rfl #[.agg #[.int .i64 a7,.int .i64 a8,.int .i64 a6,.int .i64 a9],.int .i64 a1,.int .i64 (wrap64 (38+(wrap64 (8 * a2))))] rfl tq_0 ?_;(with_reducible refine (spec_l11At.calls a7 a8 a6 a9 a1 (wrap64 (38+(wrap64 (8 * a2)))) ai _ am.out).mono ?_);rintro e ar ⟨rfl,hb⟩;refine ⟨_,rfl,?_⟩;have z_:=bw1_ (kb_ a5) th_ hb;clear a5 HB;obtain ⟨a5,HB⟩:=z_;(try clear hb)))
 go_ret
 exact ⟨tq_1,th_⟩

mutual
def spec_ReadPart.j0:Nat→Int→Bool→ByteArray→List (S78)→Int→Int→Int→Int→Option (Int × List Int × (List (S62)) × Bool)
 | 0,_,_,_,_,_,_,_,_=>none
 | k+1,x2,aj,a6,a7,a8,a5,a9,aa=>if aj=true then (some (0,([]:List Int),([]:List (S62)),false)) else ((spec_SerialAt.f a8 a5 a9 aa x2).bind fun af=>((spec_WordAt.f k a6 a7 af).bind fun ae=>((spec_NumAt.f k ae 0 3).bind fun ab=>((spec_l11At.f a8 a5 a9 aa x2 36).bind fun ag=>((spec_l14Words.f k a6 a7 ag 2).bind fun ah=>((spec_ReadStates.f k ah a5).bind fun ac=>((spec_SerialWord.f k ab.1).bind fun ai=>(if ae.toList=ai.toList then (spec_ReadPart.j1 k x2 ac.1 (!ac.2) a6 a7 a8 a5 a9 aa ab.1) else (spec_ReadPart.j1 k x2 ac.1 true a6 a7 a8 a5 a9 aa ab.1)))))))))
def spec_ReadPart.j1:Nat→Int→List Int→Bool→ByteArray→List (S78)→Int→Int→Int→Int→Int→Option (Int × List Int × (List (S62)) × Bool)
 | 0,_,_,_,_,_,_,_,_,_,_=>none
 | k+1,x2,ac,ae,a5,a6,a7,a8,a9,aa,ab=>if ae=true then (some (0,([]:List Int),([]:List (S62)),false)) else (spec_ReadPart.l0 k x2 0 a5 a6 a7 a8 a9 aa ab ac ([]:List (S62)))
def spec_ReadPart.l0:Nat→Int→Int→ByteArray→List (S78)→Int→Int→Int→Int→Int→List Int→List (S62)→Option (Int × List Int × (List (S62)) × Bool)
 | 0,_,_,_,_,_,_,_,_,_,_,_=>none
 | k+1,x2,ag,a8,a9,aa,ab,a6,ac,ae,af,a7=>if ag < a6 then ((spec_InodeAt.f aa ab a6 ac x2 ag).bind fun ah=>((spec_l14Words.f k a8 a9 ah 8).bind fun ai=>((spec_ReadInode.f k ai).bind fun a5=>(if a5.2.2.2.2.2.2=true then (if a7.length < 1599289640401 then (spec_ReadPart.l0 k x2 (wrap64 (ag+1)) a8 a9 aa ab a6 ac ae af (a7++[(⟨a5.1,a5.2.1,a5.2.2.1,a5.2.2.2.1,a5.2.2.2.2.1,a5.2.2.2.2.2.1⟩:S62)])) else (none)) else (some (0,([]:List Int),([]:List (S62)),false)))))) else (some (ae,af,a7,true))
end
def spec_ReadPart.f (k:Nat) (a6:ByteArray) (a7:List (S78)) (a5:Int) (a8:Int) (a9:Int) (aa:Int) (a2:Int):Option (Int × List Int × (List (S62)) × Bool):=(spec_CommitAt.f a5 a8 a9 aa a2).bind fun ab=>(if ab < 0 then (spec_ReadPart.j0 k a2 true a6 a7 a5 a8 a9 aa) else ((spec_MemoryOk.f k a6 a7).bind fun ac=>(if ac=true then ((spec_l10Words.f a6 a7).bind fun ae=>((spec_PartWords.f a5 a8 a9 aa).bind fun af=>(spec_ReadPart.j0 k a2 (decide (ae < (wrap64 (a5 * af)))) a6 a7 a5 a8 a9 aa))) else (spec_ReadPart.j0 k a2 true a6 a7 a5 a8 a9 aa))))
def spec_ReadPart.T1:Bool × List (List Nat × List Nat):=(true,[([],[]),([],[]),([0,1],[0,1]),([2],[2]),([3,2],[3]),([4],[4]),([5,4,4],[4,5]),([6,4],[4,6]),([4,7],[4,7]),([8,6],[8]),([9],[9]),([10,9,9],[9,10]),([9],[9]),([12,9],[9,12]),([9],[9]),([14,11,9],[9,14]),([13,15,9],[9,13,15]),([11,16,9],[9,11,16]),([9,17],[9,17])])
def spec_ReadPart.B1:List Nat:=[0,0,3,7,15,31,63,127,255,511,1023,2047,1023,5119,1023,20479,65535,131071,262143]
theorem spec_ReadPart.tab1:rtab .any (opsOf Tryz.f5 1)=spec_ReadPart.T1:=by kernel_rfl
theorem spec_ReadPart.bits1:waitsOk spec_ReadPart.T1.2 spec_ReadPart.B1=true:=by kernel_rfl
def spec_ReadPart.T7:Bool × List (List Nat × List Nat):=(true,[([],[]),([],[]),([],[]),([1,2],[1,2]),([0,3,3],[0,3]),([],[]),([5],[5]),([4,6,4],[4,6]),([7],[7]),([8],[8]),([8],[8]),([9,7,0,1,2,3,4,5,6,7,8,9],[9]),([10,11,0,1,2,3,4,5,6,7,8,9,10,11],[10])])
def spec_ReadPart.B7:List Nat:=[0,0,0,6,15,0,32,127,255,511,511,1023,4095]
theorem spec_ReadPart.tab7:rtab .any (opsOf Tryz.f5 7)=spec_ReadPart.T7:=by kernel_rfl
theorem spec_ReadPart.bits7:waitsOk spec_ReadPart.T7.2 spec_ReadPart.B7=true:=by kernel_rfl
def spec_ReadPart.T14:Bool × List (List Nat × List Nat):=(true,[([],[]),([],[]),([],[]),([],[]),([1,2,3],[1,2,3]),([0,4,4],[0,4]),([5,5],[5]),([6],[6]),([7],[7]),([7],[7]),([],[]),([10,8,6,0,1,2,3,4,5,6,7,8,10],[8,10]),([9,11,0,1,2,3,4,5,6,7,8,9,10,11],[9])])
def spec_ReadPart.B14:List Nat:=[0,0,0,0,14,31,63,127,255,255,0,1535,4095]
theorem spec_ReadPart.tab14:rtab .any (opsOf Tryz.f5 14)=spec_ReadPart.T14:=by kernel_rfl
theorem spec_ReadPart.bits14:waitsOk spec_ReadPart.T14.2 spec_ReadPart.B14=true:=by kernel_rfl
theorem spec_ReadPart.calls (k:Nat) (ap:ByteArray) (az:Option Addr) (b0:Nat) (ah:List (S78)) (ak:Int) (ai:Int) (al:Int) (am:Int) (a2:Int) (r1:Int) (r2:List Int) (r3:List (S62)) (r4:Bool) (w:World) (dj:Kd.C k78 w az ah.length ah) (dk:ah.length≤b0) (h:spec_ReadPart.f k ap ah ak ai al am a2=some (r1,r2,r3,r4)) :
  Calls Tryz.prog 5 #[.agg #[.string ap,.slice az ah.length b0],.agg #[.int .i64 ak,.int .i64 ai,.int .i64 al,.int .i64 am],.int .i64 a2] w fun e w'=>∃ v1_ v2_:Value,e=.returned (.tuple #[.agg #[.int .i64 r1,v1_,v2_],.bool r4])∧Kd.R (Kd.int .i64) 3 w' w.heap.size (fun _=>True) v1_ r2∧Kd.S k62 62 w' w.heap.size (fun _=>True) v2_ r3∧Below w.heap.size w w':=by
 have hu36:=Tryz.underlying36
 have hu38:=Tryz.underlying38
 have hu31:=Tryz.underlying31
 have hu62:=Tryz.underlying62
 have HR0_1:=m_ dj
 have ca:=m_ dk
 clear dj dk
 have HB:=m_ (Below.refl w.heap.size w)
 unfold spec_ReadPart.f at h
 have H:=h
 clear h
 have eo:=m_ H
 clear H
 go_enter Tryz.func5,Tryz.ntmps5
 go_upto_region 1 with (first|((with_reducible refine gate_dst (N:=3) rfl ?_);refine be_ 3 (cs:=#[.string ap,.slice az ah.length b0]) 36 ?_;intro aj hg w5 hbox hb;have z_:=bx0_ th_ hb hbox hg;clear HB;obtain ⟨HB,a5,ew,ex⟩:=z_;clear hb hbox hg)|((with_reducible refine gate_dst (N:=4) rfl ?_);refine be_ 4 (cs:=#[.int .i64 ak,.int .i64 ai,.int .i64 al,.int .i64 am]) 38 ?_;intro af hg w6 hbox hb;have z_:=bx1_ (kb_ a5) th_ hb hbox hg;clear a5 HB;obtain ⟨a5,HB,a6,ey,ez,d6,d7⟩:=z_;clear hb hbox hg)|((with_reducible refine gate_dst (N:=6) rfl ?_);refine be_ 6 (cs:=#[.int .i64 0,.slice none 0 0,.slice none 0 0]) 31 ?_;intro b1 hg w7 hbox hb;have z_:=bx2_ (kb_ a5) (kb_ a6) th_ hb hbox hg;clear a5 a6 HB;obtain ⟨a5,a6,HB,a7,f7,f8,bn,bo,ba,bb⟩:=z_;clear hb hbox hg))
 (try simp only [Act.put,List.setIfInBounds_toArray,List.set_cons_zero,List.set_cons_succ])
 go_cut [35] (fun v35 wc=>∃ (kq:Nat) (d4:Bool),v35=.bool d4∧Aside0 (spec_ReadPart.j0 kq a2 d4 ap ah ak ai al am=some (r1,r2,r3,r4))∧Aside0 (kq≤k)∧Aside0 (wc.heap[aj]?=some (.cells #[.string ap,(.slice az ah.length b0)] 36 (0,0)))∧Aside0 (wc.heap[af]?=some (.cells #[.int .i64 ak,.int .i64 ai,.int .i64 al,.int .i64 am] 38 (0,0)))∧Aside0 (wc.heap[b1]?=some (.cells #[.int .i64 0,(.slice none 0 0),(.slice none 0 0)] 31 (0,0)))∧Aside0 (Below w.heap.size w wc))
 case first =>
  have H:=eo.out
  clear eo
  obtain ⟨de,A8,H⟩:=bd_ H
  by_cases c9:de < 0
  ·rw [if_pos c9] at H
   have cr:=de_ c9
   clear c9
   (first|rw [cr]|(simp only [i64_w,i32_w];rw [cr])|skip)
   have H':=m_ H
   clear H
   try go_wp2
   have z_:=dw3_ a5 a6 a7 HB
   clear a5 a6 a7 HB
   obtain ⟨a5,a6,a7,HB⟩:=z_
   refine start_ (n:=19) (S:=fun w'=>w'.cell? ⟨af,0,none⟩=some (.int .i64 ak)∧w'.cell? ⟨af,1,none⟩=some (.int .i64 ai)∧w'.cell? ⟨af,2,none⟩=some (.int .i64 al)∧w'.cell? ⟨af,3,none⟩=some (.int .i64 am)) (ds:=[]) bq_8 kr_ rfl rfl (bk4_ a6.out) (fun hHeld=>?_);refine with_tabW spec_ReadPart.tab1 spec_ReadPart.bits1 (fun HT_ HW_=>?_)
   generalize w7.drew=gm at a5 a6 a7 HB hHeld ⊢
   refine yr_ 1 18 bq_178 HT_ ?_
   refine tr_ 0 17 bq_9 HT_ HW_ hHeld ?_
   refine one_ (i:=2) (N:=some 19) bq_10 rfl rfl (one_of HT_.out kr_) (by decide) (fun K hK=>?_)
   refine goes_ Tryz.func15 kr_ rfl #[.agg #[.int .i64 ak,.int .i64 ai,.int .i64 al,.int .i64 am],.int .i64 a2] (by rfl) rfl rfl tq_0 ?_
   with_reducible refine (spec_CommitAt.calls ak ai al am a2 de _ A8.out).mono ?_
   rintro e gn ⟨rfl,hb⟩
   refine ⟨_,rfl,?_⟩
   have z_:=bw3_ (kb_ a5) (kb_ a6) (kb_ a7) th_ hb
   clear a5 a6 a7 HB
   obtain ⟨a5,a6,a7,HB⟩:=z_
   (try clear hb)
   refine hK.out _ _ (bk4_ a6.out) (fun hHeld=>?_)
   clear hK K
   refine nm_ (some 19) ?_
   refine yr_ 3 20 bq_11 HT_ ?_
   refine yr_ 4 21 bq_12 HT_ ?_
   refine ur_ 5 22 bq_13 HT_ ?_
   refine ur_ 6 23 bq_14 HT_ ?_
   refine ur_ 7 24 bq_15 HT_ ?_
   refine yr_ 8 25 bq_35 HT_ ?_
   refine yr_ 9 26 bq_36 HT_ ?_
   refine ur_ 10 27 bq_97 HT_ ?_
   refine ur_ 11 28 bq_98 HT_ ?_
   refine ur_ 12 29 bq_37 HT_ ?_
   refine ur_ 13 30 bq_38 HT_ ?_
   refine ur_ 14 31 bq_16 HT_ ?_
   refine ur_ 15 32 bq_17 HT_ ?_
   refine ur_ 16 33 bq_18 HT_ ?_
   refine ur_ 17 34 bq_19 HT_ ?_
   refine yr_ 18 35 bq_20 HT_ ?_
   refine done_ (done_of HT_.out kr_) ?_
   try go_wp2
   go_meet
   case rel=>exact ⟨_,(true),tq_3,H',⟨tq_12⟩,⟨(kb_ a5)⟩,⟨(kb_ a6)⟩,⟨(kb_ a7)⟩,⟨th_⟩⟩
  rw [if_neg c9] at H
  have cr:=df_ c9
  clear c9
  (first|rw [cr]|(simp only [i64_w,i32_w];rw [cr])|skip)
  obtain ⟨ep,f9,H⟩:=bd_ H
  by_cases dn:ep=true
  rotate_left
  ·replace dn:=Bool.eq_false_iff.mpr dn
   subst dn
   rw [if_neg nf_] at H
   have H':=m_ H
   clear H
   try go_wp2
   have z_:=dw3_ a5 a6 a7 HB
   clear a5 a6 a7 HB
   obtain ⟨a5,a6,a7,HB⟩:=z_
   refine start_ (n:=19) (S:=fun w'=>w'.cell? ⟨af,0,none⟩=some (.int .i64 ak)∧w'.cell? ⟨af,1,none⟩=some (.int .i64 ai)∧w'.cell? ⟨af,2,none⟩=some (.int .i64 al)∧w'.cell? ⟨af,3,none⟩=some (.int .i64 am)∧w'.cell? ⟨aj,0,none⟩=some (.string ap)∧w'.cell? ⟨aj,1,none⟩=some (.slice az ah.length b0)) (ds:=[]) bq_8 kr_ rfl rfl (bc4_ a6.out (bk2_ a5.out)) (fun hHeld=>?_);refine with_tabW spec_ReadPart.tab1 spec_ReadPart.bits1 (fun HT_ HW_=>?_)
   generalize w7.drew=go at a5 a6 a7 HB hHeld ⊢
   refine yr_ 1 18 bq_178 HT_ ?_
   refine tr_ 0 17 bq_9 HT_ HW_ hHeld ?_
   refine one_ (i:=2) (N:=some 19) bq_10 rfl rfl (one_of HT_.out kr_) (by decide) (fun K hK=>?_)
   refine goes_ Tryz.func15 kr_ rfl #[.agg #[.int .i64 ak,.int .i64 ai,.int .i64 al,.int .i64 am],.int .i64 a2] (by rfl) rfl rfl tq_0 ?_
   with_reducible refine (spec_CommitAt.calls ak ai al am a2 de _ A8.out).mono ?_
   rintro e gp ⟨rfl,hb⟩
   refine ⟨_,rfl,?_⟩
   have z_:=bw3_ (kb_ a5) (kb_ a6) (kb_ a7) th_ hb
   clear a5 a6 a7 HB
   obtain ⟨a5,a6,a7,HB⟩:=z_
   (try clear hb)
   refine hK.out _ _ (bc4_ a6.out (bk2_ a5.out)) (fun hHeld=>?_)
   clear hK K
   refine nm_ (some 19) ?_
   refine yr_ 3 20 bq_11 HT_ ?_
   refine yr_ 4 21 bq_12 HT_ ?_
   refine tr_ 5 22 bq_13 HT_ HW_ hHeld ?_
   refine one_ (i:=6) (N:=some 23) bq_14 rfl rfl (one_of HT_.out kr_) (by decide) (fun K hK=>?_)
   refine goes_ Tryz.func16 kr_ rfl #[.agg #[.string ap,.slice az ah.length b0]] (by rfl) rfl rfl tq_0 ?_
   with_reducible refine (spec_MemoryOk.calls k ap _ _ ah false _ ?side1 ?side2 f9.out).mono ?_
   (case side1=>exact tq_4)
   (case side2=>exact ca.out)
   rintro e gq ⟨rfl,hb⟩
   refine ⟨_,rfl,?_⟩
   have z_:=bw3_ (kb_ a5) (kb_ a6) (kb_ a7) th_ hb
   clear a5 a6 a7 HB
   obtain ⟨a5,a6,a7,HB⟩:=z_
   (try clear hb)
   refine hK.out _ _ (bc4_ a6.out (bk2_ a5.out)) (fun hHeld=>?_)
   clear hK K
   refine nm_ (some 23) ?_
   refine yr_ 7 24 bq_15 HT_ ?_
   refine yr_ 8 25 bq_35 HT_ ?_
   refine yr_ 9 26 bq_36 HT_ ?_
   refine ur_ 10 27 bq_97 HT_ ?_
   refine ur_ 11 28 bq_98 HT_ ?_
   refine ur_ 12 29 bq_37 HT_ ?_
   refine ur_ 13 30 bq_38 HT_ ?_
   refine ur_ 14 31 bq_16 HT_ ?_
   refine ur_ 15 32 bq_17 HT_ ?_
   refine ur_ 16 33 bq_18 HT_ ?_
   refine ur_ 17 34 bq_19 HT_ ?_
   refine yr_ 18 35 bq_20 HT_ ?_
   refine done_ (done_of HT_.out kr_) ?_
   try go_wp2
   go_meet
   case rel=>exact ⟨_,(true),tq_3,H',⟨tq_12⟩,⟨(kb_ a5)⟩,⟨(kb_ a6)⟩,⟨(kb_ a7)⟩,⟨th_⟩⟩
  subst dn
  rw [if_pos rfl] at H
  obtain ⟨dz,fq,H⟩:=bd_ H
  obtain ⟨e0,fr,H⟩:=bd_ H
  have H':=m_ H
  clear H
  try go_wp2
  have z_:=dw3_ a5 a6 a7 HB
  clear a5 a6 a7 HB
  obtain ⟨a5,a6,a7,HB⟩:=z_
  refine start_ (n:=19) (S:=fun w'=>w'.cell? ⟨af,0,none⟩=some (.int .i64 ak)∧w'.cell? ⟨af,1,none⟩=some (.int .i64 ai)∧w'.cell? ⟨af,2,none⟩=some (.int .i64 al)∧w'.cell? ⟨af,3,none⟩=some (.int .i64 am)∧w'.cell? ⟨aj,0,none⟩=some (.string ap)∧w'.cell? ⟨aj,1,none⟩=some (.slice az ah.length b0)) (ds:=[]) bq_8 kr_ rfl rfl (bc4_ a6.out (bk2_ a5.out)) (fun hHeld=>?_);refine with_tabW spec_ReadPart.tab1 spec_ReadPart.bits1 (fun HT_ HW_=>?_)
  generalize w7.drew=gr at a5 a6 a7 HB hHeld ⊢
  refine yr_ 1 18 bq_178 HT_ ?_
  refine tr_ 0 17 bq_9 HT_ HW_ hHeld ?_
  refine one_ (i:=2) (N:=some 19) bq_10 rfl rfl (one_of HT_.out kr_) (by decide) (fun K hK=>?_)
  refine goes_ Tryz.func15 kr_ rfl #[.agg #[.int .i64 ak,.int .i64 ai,.int .i64 al,.int .i64 am],.int .i64 a2] (by rfl) rfl rfl tq_0 ?_
  with_reducible refine (spec_CommitAt.calls ak ai al am a2 de _ A8.out).mono ?_
  rintro e gs ⟨rfl,hb⟩
  refine ⟨_,rfl,?_⟩
  have z_:=bw3_ (kb_ a5) (kb_ a6) (kb_ a7) th_ hb
  clear a5 a6 a7 HB
  obtain ⟨a5,a6,a7,HB⟩:=z_
  (try clear hb)
  refine hK.out _ _ (bc4_ a6.out (bk2_ a5.out)) (fun hHeld=>?_)
  clear hK K
  refine nm_ (some 19) ?_
  refine yr_ 3 20 bq_11 HT_ ?_
  refine yr_ 4 21 bq_12 HT_ ?_
  refine tr_ 5 22 bq_13 HT_ HW_ hHeld ?_
  refine one_ (i:=6) (N:=some 23) bq_14 rfl rfl (one_of HT_.out kr_) (by decide) (fun K hK=>?_)
  refine goes_ Tryz.func16 kr_ rfl #[.agg #[.string ap,.slice az ah.length b0]] (by rfl) rfl rfl tq_0 ?_
  with_reducible refine (spec_MemoryOk.calls k ap _ _ ah true _ ?side1 ?side2 f9.out).mono ?_
  (case side1=>exact tq_4)
  (case side2=>exact ca.out)
  rintro e gt ⟨rfl,hb⟩
  refine ⟨_,rfl,?_⟩
  have z_:=bw3_ (kb_ a5) (kb_ a6) (kb_ a7) th_ hb
  clear a5 a6 a7 HB
  obtain ⟨a5,a6,a7,HB⟩:=z_
  (try clear hb)
  refine hK.out _ _ (bc4_ a6.out (bk2_ a5.out)) (fun hHeld=>?_)
  clear hK K
  refine nm_ (some 23) ?_
  refine yr_ 7 24 bq_15 HT_ ?_
  refine yr_ 8 25 bq_35 HT_ ?_
  refine yr_ 9 26 bq_36 HT_ ?_
  refine yr_ 12 29 #[T_,T_,T_,T_,T_,T_,T_,T_,T_,T_,F_,F_,T_,F_,F_,F_,F_,F_,F_] HT_ ?_
  refine tr_ 10 27 #[T_,T_,T_,T_,T_,T_,T_,T_,T_,T_,T_,F_,T_,F_,F_,F_,F_,F_,F_] HT_ HW_ hHeld ?_
  refine tr_ 13 30 #[T_,T_,T_,T_,T_,T_,T_,T_,T_,T_,T_,F_,T_,T_,F_,F_,F_,F_,F_] HT_ HW_ hHeld ?_
  refine tr_ 14 31 #[T_,T_,T_,T_,T_,T_,T_,T_,T_,T_,T_,F_,T_,T_,T_,F_,F_,F_,F_] HT_ HW_ hHeld ?_
  refine one_ (i:=11) (N:=some 28) bq_16 rfl rfl (one_of HT_.out kr_) (by decide) (fun K hK=>?_)
  refine goes_ Tryz.func17 kr_ rfl #[.agg #[.string ap,.slice az ah.length b0]] (by rfl) rfl rfl tq_0 ?_
  with_reducible refine (spec_l10Words.calls ap _ _ ah dz _ ?side1 ?side2 fq.out).mono ?_
  (case side1=>exact tq_4)
  (case side2=>exact ca.out)
  rintro e gu ⟨rfl,hb⟩
  refine ⟨_,rfl,?_⟩
  have z_:=bw3_ (kb_ a5) (kb_ a6) (kb_ a7) th_ hb
  clear a5 a6 a7 HB
  obtain ⟨a5,a6,a7,HB⟩:=z_
  (try clear hb)
  refine hK.out _ _ (bc4_ a6.out (bk2_ a5.out)) (fun hHeld=>?_)
  clear hK K
  refine nm_ (some 28) ?_
  refine one_ (i:=15) (N:=some 32) bq_17 rfl rfl (one_of HT_.out kr_) (by decide) (fun K hK=>?_)
  refine goes_ Tryz.func18 kr_ rfl #[.agg #[.int .i64 ak,.int .i64 ai,.int .i64 al,.int .i64 am]] (by rfl) rfl rfl tq_0 ?_
  with_reducible refine (spec_PartWords.calls ak ai al am e0 _ fr.out).mono ?_
  rintro e gv ⟨rfl,hb⟩
  refine ⟨_,rfl,?_⟩
  have z_:=bw3_ (kb_ a5) (kb_ a6) (kb_ a7) th_ hb
  clear a5 a6 a7 HB
  obtain ⟨a5,a6,a7,HB⟩:=z_
  (try clear hb)
  refine hK.out _ _ (bc4_ a6.out (bk2_ a5.out)) (fun hHeld=>?_)
  clear hK K
  refine nm_ (some 32) ?_
  refine yr_ 16 33 bq_18 HT_ ?_
  refine yr_ 17 34 bq_19 HT_ ?_
  refine yr_ 18 35 bq_20 HT_ ?_
  refine done_ (done_of HT_.out kr_) ?_
  try go_wp2
  go_meet
  case rel=>exact ⟨_,(decide (dz < (wrap64 (ak * e0)))),tq_3,H',⟨tq_12⟩,⟨(kb_ a5)⟩,⟨(kb_ a6)⟩,⟨(kb_ a7)⟩,⟨th_⟩⟩
 case rest =>
 clear eo
 try clear c1;try clear p2;try clear p6;try clear c9;try clear cr;try clear dn;try clear fa;try clear fb;try clear fc;try clear fd
 obtain ⟨kq,d4,rfl,HA,HJ3,a5,a6,a7,HB⟩:=hcut
 cases kq with
 | zero=>exact absurd HA.out (by simp [spec_ReadPart.j0])
 | succ kj3 =>
 have H:=HA.out
 clear HA
 simp only [spec_ReadPart.j0] at H
 by_cases dw:d4=true
 ·subst dw
  rw [if_pos rfl] at H
  simp only [Option.some.injEq,Prod.mk.injEq] at H
  obtain ⟨rfl,rfl,rfl,rfl⟩:=H
  obtain ⟨ce,cf,bj,bl⟩:=an4_ bo bn bb ba
  have df:=bb3_ a7.out
  go_wp2
  refine bodyPost_ret (results_ct rfl _ _ b1 31 #[.int .i64 0,.slice none 0 0,.slice none 0 0] (0,0) _ rfl tb_ Tryz.underlying31 rfl kr_) rfl ?_
  exact ⟨_,_,tq_1,tq_5,tq_13,th_⟩
 replace dw:=Bool.eq_false_iff.mpr dw
 subst dw
 rw [if_neg nf_] at H
 obtain ⟨dp,fs,H⟩:=bd_ H
 obtain ⟨dg,ft,H⟩:=bd_ H
 obtain ⟨⟨b9,eq⟩,fu,H⟩:=bd_ H
 try dsimp -simprocs only at H
 obtain ⟨dq,fw,H⟩:=bd_ H
 obtain ⟨dr,fx,H⟩:=bd_ H
 obtain ⟨⟨bc,e1⟩,fy,H⟩:=bd_ H
 try dsimp -simprocs only at H
 have dt:=m_ H
 clear H
 try go_wp2_with (first|((with_reducible refine gate_dst (N:=8) rfl ?_);refine be_ 8 (cs:=#[.int .i64 0,.slice none 0 0,.slice none 0 0]) 31 ?_;intro ag hg dx hbox hb;have z_:=bx3_ (kb_ a5) (kb_ a6) (kb_ a7) th_ hb hbox hg;clear a5 a6 a7 HB;obtain ⟨a5,a6,a7,HB,aa,fe,ff,bv,bw,bx,bz,bp,bq⟩:=z_;clear hb hbox hg;obtain ⟨cg,ch,ci,cj,bs,bu⟩:=an6_ bw bv bz bx bq bp;have d8:=bb3_ aa.out))
 have n0_:Aside0 ((((dx.setCell ⟨ag,0,none⟩ (.int .i64 0)).setCell ⟨ag,1,none⟩ (.slice none 0 0)).setCell ⟨ag,2,none⟩ (.slice none 0 0)).heap[aj]?=some (.cells #[.string ap,.slice az ah.length b0] 36 (0,0))):=⟨tb_⟩
 have n1_:Aside0 ((((dx.setCell ⟨ag,0,none⟩ (.int .i64 0)).setCell ⟨ag,1,none⟩ (.slice none 0 0)).setCell ⟨ag,2,none⟩ (.slice none 0 0)).heap[af]?=some (.cells #[.int .i64 ak,.int .i64 ai,.int .i64 al,.int .i64 am] 38 (0,0))):=⟨tb_⟩
 have n2_:Aside0 ((((dx.setCell ⟨ag,0,none⟩ (.int .i64 0)).setCell ⟨ag,1,none⟩ (.slice none 0 0)).setCell ⟨ag,2,none⟩ (.slice none 0 0)).heap[b1]?=some (.cells #[.int .i64 0,.slice none 0 0,.slice none 0 0] 31 (0,0))):=⟨tb_⟩
 have n3_:Aside0 ((((dx.setCell ⟨ag,0,none⟩ (.int .i64 0)).setCell ⟨ag,1,none⟩ (.slice none 0 0)).setCell ⟨ag,2,none⟩ (.slice none 0 0)).heap[ag]?=some (.cells #[.int .i64 0,.slice none 0 0,.slice none 0 0] 31 (0,0))):=⟨tb_⟩
 have n4_:Aside0 (Below w.heap.size w (((dx.setCell ⟨ag,0,none⟩ (.int .i64 0)).setCell ⟨ag,1,none⟩ (.slice none 0 0)).setCell ⟨ag,2,none⟩ (.slice none 0 0))):=⟨th_⟩
 (try clear a5)
 (try clear a6)
 (try clear a7)
 (try clear aa)
 (try clear HB)
 generalize (((dx.setCell ⟨ag,0,none⟩ (.int .i64 0)).setCell ⟨ag,1,none⟩ (.slice none 0 0)).setCell ⟨ag,2,none⟩ (.slice none 0 0))=fz at n0_ n1_ n2_ n3_ n4_ ⊢
 have a5:=n0_
 have a6:=n1_
 have a7:=n2_
 have aa:=n3_
 have HB:=n4_
 clear n0_ n1_ n2_ n3_ n4_
 have z_:=dw4_ a5 a6 a7 aa HB
 clear a5 a6 a7 aa HB
 obtain ⟨a5,a6,a7,aa,HB⟩:=z_
 refine start_ (n:=6) (S:=fun w'=>w'.cell? ⟨aj,0,none⟩=some (.string ap)∧w'.cell? ⟨aj,1,none⟩=some (.slice az ah.length b0)∧w'.cell? ⟨af,0,none⟩=some (.int .i64 ak)∧w'.cell? ⟨af,1,none⟩=some (.int .i64 ai)∧w'.cell? ⟨af,2,none⟩=some (.int .i64 al)∧w'.cell? ⟨af,3,none⟩=some (.int .i64 am)) (ds:=[]) #[F_,F_,F_,F_,F_,F_] kr_ rfl rfl (bc2_ a5.out (bk4_ a6.out)) (fun hHeld=>?_)
 generalize fz.drew=gw at a5 a6 a7 aa HB hHeld ⊢
 refine yq_ (i:=2) (N:=some 40) #[F_,F_,T_,F_,F_,F_] kr_ ?_
 refine take_ (i:=0) (N:=some 38) (v:=?_) (a':=?_) #[T_,F_,T_,F_,F_,F_] rfl rfl kr_ (fun _ _ _ h=>h) (Or.inl ⟨(by rfl),?_⟩) hHeld ?_ ?_
 rotate_left
 ·rintro w' ⟨s0,s1,s2,s3,s4,s5⟩
  go_simp
  with_reducible rfl
 rotate_left
 ·simp only [Act.put,List.setIfInBounds_toArray,List.set_cons_zero,List.set_cons_succ,i64_w,i32_w]
  rfl
 refine take_ (i:=1) (N:=some 39) (v:=?_) (a':=?_) #[T_,T_,T_,F_,F_,F_] rfl rfl kr_ (fun _ _ _ h=>h) (Or.inl ⟨(by rfl),?_⟩) hHeld ?_ ?_
 rotate_left
 ·rintro w' ⟨s0,s1,s2,s3,s4,s5⟩
  go_simp
  with_reducible rfl
 rotate_left
 ·simp only [Act.put,List.setIfInBounds_toArray,List.set_cons_zero,List.set_cons_succ,i64_w,i32_w]
  rfl
 refine one_ (i:=3) (N:=some 41) #[T_,T_,T_,T_,F_,F_] rfl rfl kr_ (by decide) (fun K hK=>?_)
 refine goes_ Tryz.func20 kr_ rfl #[.agg #[.int .i64 ak,.int .i64 ai,.int .i64 al,.int .i64 am],.int .i64 a2] (by rfl) rfl rfl tq_0 ?_
 with_reducible refine (spec_SerialAt.calls ak ai al am a2 dp _ fs.out).mono ?_
 rintro e gx ⟨rfl,hb⟩
 refine ⟨_,rfl,?_⟩
 have z_:=bw4_ (kb_ a5) (kb_ a6) (kb_ a7) (kb_ aa) th_ hb
 clear a5 a6 a7 aa HB
 obtain ⟨a5,a6,a7,aa,HB⟩:=z_
 (try clear hb)
 refine hK.out _ _ (bc2_ a5.out (bk4_ a6.out)) (fun hHeld=>?_)
 clear hK K
 refine nm_ (some 41) ?_
 refine one_ (i:=4) (N:=some 42) #[T_,T_,T_,T_,T_,F_] rfl rfl kr_ (by decide) (fun K hK=>?_)
 refine goes_ Tryz.func19 kr_ rfl #[.agg #[.string ap,.slice az ah.length b0],.int .i64 dp] (by rfl) rfl rfl tq_0 ?_
 with_reducible refine (spec_WordAt.calls kj3 ap _ _ ah dp dg _ ?side1 ?side2 ft.out).mono ?_
 (case side1=>exact tq_4)
 (case side2=>exact ca.out)
 rintro e d5 ⟨rfl,hb⟩
 refine ⟨_,rfl,?_⟩
 have z_:=bw4_ (kb_ a5) (kb_ a6) (kb_ a7) (kb_ aa) th_ hb
 clear a5 a6 a7 aa HB
 obtain ⟨a5,a6,a7,aa,HB⟩:=z_
 (try clear hb)
 refine hK.out _ _ (bc2_ a5.out (bk4_ a6.out)) (fun hHeld=>?_)
 clear hK K
 refine nm_ (some 42) ?_
 refine yq_ (i:=5) (N:=some 9) #[T_,T_,T_,T_,T_,T_] kr_ ?_
 refine done_ kr_ ?_
 try go_wp2_with (first|((with_reducible refine gate_callee (f:=21) rfl ?_);refine goesL_ (some 45) rfl rfl Tryz.func21 kr_ rfl #[.string dg,.int .i64 0,.int .i64 3] rfl tq_0 ?_;(with_reducible refine (spec_NumAt.calls kj3 dg 0 3 b9 eq _ fu.out).mono ?_);rintro e w' ⟨rfl,⟨nd,rfl⟩⟩;refine ⟨_,rfl,?_⟩;(try (rw [drewN_self d5];generalize hq_:World.drewN d5 _=d5;have z_:=q_ (⟨(by rw [← hq_];exact (kb_ a5))⟩:Aside0 (d5.heap[aj]?=some (.cells #[.string ap,.slice az ah.length b0] 36 (0,0)))) <| q_ (⟨(by rw [← hq_];exact (kb_ a6))⟩:Aside0 (d5.heap[af]?=some (.cells #[.int .i64 ak,.int .i64 ai,.int .i64 al,.int .i64 am] 38 (0,0)))) <| q_ (⟨(by rw [← hq_];exact (kb_ a7))⟩:Aside0 (d5.heap[b1]?=some (.cells #[.int .i64 0,.slice none 0 0,.slice none 0 0] 31 (0,0)))) <| q_ (⟨(by rw [← hq_];exact (kb_ aa))⟩:Aside0 (d5.heap[ag]?=some (.cells #[.int .i64 0,.slice none 0 0,.slice none 0 0] 31 (0,0)))) <| (⟨tq_74⟩:Aside0 (Below w.heap.size w d5));clear a5 a6 a7 aa HB hq_;obtain ⟨a5,a6,a7,aa,HB⟩:=z_));have d9:=bb3_ aa.out))
 have n0_:Aside0 ((d5.setCell ⟨ag,0,none⟩ (.int .i64 b9)).heap[aj]?=some (.cells #[.string ap,.slice az ah.length b0] 36 (0,0))):=⟨tb_⟩
 have n1_:Aside0 ((d5.setCell ⟨ag,0,none⟩ (.int .i64 b9)).heap[af]?=some (.cells #[.int .i64 ak,.int .i64 ai,.int .i64 al,.int .i64 am] 38 (0,0))):=⟨tb_⟩
 have n2_:Aside0 ((d5.setCell ⟨ag,0,none⟩ (.int .i64 b9)).heap[b1]?=some (.cells #[.int .i64 0,.slice none 0 0,.slice none 0 0] 31 (0,0))):=⟨tb_⟩
 have n3_:Aside0 ((d5.setCell ⟨ag,0,none⟩ (.int .i64 b9)).heap[ag]?=some (.cells #[.int .i64 b9,.slice none 0 0,.slice none 0 0] 31 (0,0))):=⟨tb_⟩
 have n4_:Aside0 (Below w.heap.size w (d5.setCell ⟨ag,0,none⟩ (.int .i64 b9))):=⟨th_⟩
 (try clear a5)
 (try clear a6)
 (try clear a7)
 (try clear aa)
 (try clear HB)
 generalize (d5.setCell ⟨ag,0,none⟩ (.int .i64 b9))=g6 at n0_ n1_ n2_ n3_ n4_ ⊢
 have a5:=n0_
 have a6:=n1_
 have a7:=n2_
 have aa:=n3_
 have HB:=n4_
 clear n0_ n1_ n2_ n3_ n4_
 have z_:=dw4_ a5 a6 a7 aa HB
 clear a5 a6 a7 aa HB
 obtain ⟨a5,a6,a7,aa,HB⟩:=z_
 refine start_ (n:=13) (S:=fun w'=>w'.cell? ⟨aj,0,none⟩=some (.string ap)∧w'.cell? ⟨aj,1,none⟩=some (.slice az ah.length b0)∧w'.cell? ⟨af,0,none⟩=some (.int .i64 ak)∧w'.cell? ⟨af,1,none⟩=some (.int .i64 ai)∧w'.cell? ⟨af,2,none⟩=some (.int .i64 al)∧w'.cell? ⟨af,3,none⟩=some (.int .i64 am)) (ds:=[]) bq_30 kr_ rfl rfl (bc2_ a5.out (bk4_ a6.out)) (fun hHeld=>?_);refine with_tabW spec_ReadPart.tab7 spec_ReadPart.bits7 (fun HT_ HW_=>?_)
 generalize g6.drew=gy at a5 a6 a7 aa HB hHeld ⊢
 refine yr_ 2 53 bq_99 HT_ ?_
 refine yr_ 5 56 bq_262 HT_ ?_
 refine tr_ 0 51 bq_263 HT_ HW_ hHeld ?_
 refine tr_ 1 52 bq_264 HT_ HW_ hHeld ?_
 refine tr_ 6 57 bq_265 HT_ HW_ hHeld ?_
 refine one_ (i:=3) (N:=some 54) bq_266 rfl rfl (one_of HT_.out kr_) (by decide) (fun K hK=>?_)
 refine goes_ Tryz.func24 kr_ rfl #[.agg #[.int .i64 ak,.int .i64 ai,.int .i64 al,.int .i64 am],.int .i64 a2,.int .i64 36] (by rfl) rfl rfl tq_0 ?_
 with_reducible refine (spec_l11At.calls ak ai al am a2 36 dq _ fw.out).mono ?_
 rintro e gz ⟨rfl,hb⟩
 refine ⟨_,rfl,?_⟩
 have z_:=bw4_ (kb_ a5) (kb_ a6) (kb_ a7) (kb_ aa) th_ hb
 clear a5 a6 a7 aa HB
 obtain ⟨a5,a6,a7,aa,HB⟩:=z_
 (try clear hb)
 refine hK.out _ _ (bc2_ a5.out (bk4_ a6.out)) (fun hHeld=>?_)
 clear hK K
 refine nm_ (some 54) ?_
 refine one_ (i:=4) (N:=some 55) bq_100 rfl rfl (one_of HT_.out kr_) (by decide) (fun K hK=>?_)
 refine goes_ Tryz.func23 kr_ rfl #[.agg #[.string ap,.slice az ah.length b0],.int .i64 dq,.int .i64 2] (by rfl) rfl rfl tq_0 ?_
 with_reducible refine (spec_l14Words.calls kj3 ap _ _ ah dq 2 dr _ ?side1 ?side2 fx.out).mono ?_
 (case side1=>exact tq_4)
 (case side2=>exact ca.out)
 rintro e h8 ⟨v337,rfl,ho0,hb⟩
 refine ⟨_,rfl,?_⟩
 have z_:=p_ (Kd.R_lower ho0 (below_size th_)) <| bw4_ (kb_ a5) (kb_ a6) (kb_ a7) (kb_ aa) th_ hb
 clear a5 a6 a7 aa HB
 obtain ⟨bh,a5,a6,a7,aa,HB⟩:=z_
 (try clear hb)
 (try clear ho0)
 obtain ⟨er,es,e2⟩:=Kd.R_slice bh.out
 (first|subst e2|(injection e2 with f1_ f2_ f3_;have f4_:=f1_.symm;have f5_:=f3_.symm;clear f1_ f2_ f3_;subst f4_;subst f5_))
 refine hK.out _ _ (bc2_ a5.out (bk4_ a6.out)) (fun hHeld=>?_)
 clear hK K
 refine nm_ (some 55) ?_
 refine one_ (i:=7) (N:=some 58) bq_101 rfl rfl (one_of HT_.out kr_) (by decide) (fun K hK=>?_)
 refine goes_ Tryz.func22 kr_ rfl #[.slice er dr.length es,.int .i64 ai] (by rfl) rfl rfl tq_0 ?_
 with_reducible refine (spec_ReadStates.calls kj3 _ _ dr ai bc e1 _ ?side1 ?side2 fy.out).mono ?_
 (case side1=>repeat (first|exact (Kd.R_reads' bh.out).2.2|(with_reducible refine Kd.C_alloc ?_ _)|(with_reducible refine Kd.C_drewN ?_ _)|(with_reducible refine Kd.C_drew ?_)))
 (case side2=>exact (Kd.R_reads' bh.out).2.1)
 rintro e h9 ⟨v341,rfl,ho0,hb⟩
 refine ⟨_,rfl,?_⟩
 have z_:=p_ (Kd.R_below (raR_ bh) hb) <| p_ (Kd.R_lower ho0 (below_size th_)) <| bw4_ (kb_ a5) (kb_ a6) (kb_ a7) (kb_ aa) th_ hb
 clear bh a5 a6 a7 aa HB
 obtain ⟨bh,cb,a5,a6,a7,aa,HB⟩:=z_
 (try clear hb)
 (try clear ho0)
 refine hK.out _ _ (bc2_ a5.out (bk4_ a6.out)) (fun hHeld=>?_)
 clear hK K
 refine nm_ (some 58) ?_
 refine yr_ 8 50 bq_31 HT_ ?_
 refine yr_ 9 59 bq_32 HT_ ?_
 refine yr_ 10 60 bq_0 HT_ ?_
 refine yr_ 11 12 bq_33 HT_ ?_
 refine yr_ 12 13 bq_34 HT_ ?_
 refine done_ (done_of HT_.out kr_) ?_
 go_upto_region 8 with (fail)
 go_cut [68] (fun v68 wc=>∃ (kq:Nat) (cp:Bool),v68=.bool cp∧Aside0 (spec_ReadPart.j1 kq a2 bc cp ap ah ak ai al am b9=some (r1,r2,r3,r4))∧Aside0 (kq≤kj3)∧Aside0 (Kd.R (Kd.int .i64) 3 wc w.heap.size (fun _=>True) v341 bc)∧Aside0 (wc.heap[aj]?=some (.cells #[.string ap,(.slice az ah.length b0)] 36 (0,0)))∧Aside0 (wc.heap[af]?=some (.cells #[.int .i64 ak,.int .i64 ai,.int .i64 al,.int .i64 am] 38 (0,0)))∧Aside0 (wc.heap[b1]?=some (.cells #[.int .i64 0,(.slice none 0 0),(.slice none 0 0)] 31 (0,0)))∧Aside0 (wc.heap[ag]?=some (.cells #[.int .i64 b9,(.slice none 0 0),(.slice none 0 0)] 31 (0,0)))∧Aside0 (Below w.heap.size w wc))
 case first =>
  have H:=dt.out
  clear dt
  obtain ⟨du,fg,H⟩:=bd_ H
  by_cases dh:dg.toList=du.toList
  rotate_left
  ·rw [if_neg dh] at H
   have ck:=qc_ dh
   have da:=qd_ dh
   (first|rw [ck]|(simp only [i64_w,i32_w];rw [ck])|skip)
   have H':=m_ H
   clear H
   go_wp2_with (first|((with_reducible refine gate_callee (f:=25) rfl ?_);refine goesL_ (some 63) rfl rfl Tryz.func25 kr_ rfl #[.int .i64 b9] rfl tq_0 ?_;(with_reducible refine (spec_SerialWord.calls kj3 b9 du _ fg.out).mono ?_);rintro e hf ⟨rfl,hb⟩;refine ⟨_,rfl,?_⟩;have z_:=p_ (Kd.R_below (raR_ bh) hb) <| p_ (Kd.R_below (raR_ cb) hb) <| bw4_ (kb_ a5) (kb_ a6) (kb_ a7) (kb_ aa) th_ hb;clear bh cb a5 a6 a7 aa HB;obtain ⟨bh,cb,a5,a6,a7,aa,HB⟩:=z_;(try clear hb)))
   go_meet
   case rel=>exact ⟨_,(true),tq_3,H',⟨(by have:=HJ3.out;first|omega|exact Nat.le_refl _)⟩,⟨(raR_ cb)⟩,⟨(kb_ a5)⟩,⟨(kb_ a6)⟩,⟨(kb_ a7)⟩,⟨(kb_ aa)⟩,⟨th_⟩⟩
  rw [if_pos dh] at H
  have ck:=qa_ dh
  have da:=qb_ dh
  clear dh
  (first|rw [ck]|(simp only [i64_w,i32_w];rw [ck])|skip)
  have H':=m_ H
  clear H
  go_wp2_with (first|((with_reducible refine gate_callee (f:=25) rfl ?_);refine goesL_ (some 63) rfl rfl Tryz.func25 kr_ rfl #[.int .i64 b9] rfl tq_0 ?_;(with_reducible refine (spec_SerialWord.calls kj3 b9 du _ fg.out).mono ?_);rintro e hh ⟨rfl,hb⟩;refine ⟨_,rfl,?_⟩;have z_:=p_ (Kd.R_below (raR_ bh) hb) <| p_ (Kd.R_below (raR_ cb) hb) <| bw4_ (kb_ a5) (kb_ a6) (kb_ a7) (kb_ aa) th_ hb;clear bh cb a5 a6 a7 aa HB;obtain ⟨bh,cb,a5,a6,a7,aa,HB⟩:=z_;(try clear hb)))
  go_meet
  case rel=>exact ⟨_,(!e1),tq_3,H',⟨(by have:=HJ3.out;first|omega|exact Nat.le_refl _)⟩,⟨(raR_ cb)⟩,⟨(kb_ a5)⟩,⟨(kb_ a6)⟩,⟨(kb_ a7)⟩,⟨(kb_ aa)⟩,⟨th_⟩⟩
 case rest =>
 clear dt
 try clear c1;try clear c2;try clear p2;try clear c3;try clear c5;try clear p6;try clear c9;try clear cr;try clear dn;try clear fa;try clear fb;try clear fc;try clear fd;try clear g7;try clear g8;try clear g9;try clear ga;try clear gb;try clear dw;try clear gc;try clear gd;try clear ge;try clear gf;try clear gh;try clear dh;try clear ck;try clear da;try clear df;try clear d8;try clear d9;try clear df;try clear d8;try clear d9;try clear p2;try clear p6
 obtain ⟨kq,cp,rfl,HA,HJ33,dl,a5,a6,a7,aa,HB⟩:=hcut
 cases kq with
 | zero=>exact absurd HA.out (by simp [spec_ReadPart.j1])
 | succ kj33 =>
 have H:=HA.out
 clear HA
 simp only [spec_ReadPart.j1] at H
 by_cases e3:cp=true
 ·subst e3
  rw [if_pos rfl] at H
  simp only [Option.some.injEq,Prod.mk.injEq] at H
  obtain ⟨rfl,rfl,rfl,rfl⟩:=H
  obtain ⟨ce,cf,bj,bl⟩:=an4_ bo bn bb ba
  have e4:=bb3_ a7.out
  go_wp2
  refine bodyPost_ret (results_ct rfl _ _ b1 31 #[.int .i64 0,.slice none 0 0,.slice none 0 0] (0,0) _ rfl tb_ Tryz.underlying31 rfl kr_) rfl ?_
  exact ⟨_,_,tq_1,tq_5,tq_13,th_⟩
 replace e3:=Bool.eq_false_iff.mpr e3
 subst e3
 rw [if_neg nf_] at H
 have H':=m_ H
 clear H
 obtain ⟨cn,co,et⟩:=Kd.R_slice dl.out
 subst et
 have di:=bb3_ aa.out
 go_wp2
 go_loopg [14] kj33 (fun kq v14 w'=>∃ (br:Int) (b4:Int) (aw:List (S62)) (u331002:Value),v14=.int .i64 br∧Aside0 (spec_ReadPart.l0 kq a2 br ap ah ak ai al am b9 bc aw=some (r1,r2,r3,r4))∧Aside0 (kq≤kj33)∧Aside0 (Kd.R (Kd.int .i64) 3 w' w.heap.size (fun _=>True) (.slice cn bc.length co) bc)∧Aside0 (Kd.S k62 62 w' w.heap.size (fun _=>True) u331002 aw)∧Aside0 (w'.heap[aj]?=some (.cells #[.string ap,(.slice az ah.length b0)] 36 (0,0)))∧Aside0 (w'.heap[af]?=some (.cells #[.int .i64 ak,.int .i64 ai,.int .i64 al,.int .i64 am] 38 (0,0)))∧Aside0 (w'.heap[b1]?=some (.cells #[.int .i64 b4,(.slice none 0 0),(.slice none 0 0)] 31 (0,0)))∧Aside0 (w'.heap[ag]?=some (.cells #[.int .i64 b9,(.slice cn bc.length co),u331002] 31 (0,0)))∧Aside0 (Below w.heap.size w w'))
 case atStart=>exact ⟨(0),(0),(([]:List (S62))),(.slice none 0 0),tq_3,H',⟨Nat.le_refl _⟩,⟨(by (with_reducible repeat (first|apply Kd.R_alloc|apply Kd.R_drewN|apply Kd.R_drew));exact Kd.R_mono (rR_ (Kd.R_types dl.out aa.out (by decide))) (fun _ hk=>trivial))⟩,⟨tq_13⟩,⟨tb_⟩,⟨tb_⟩,⟨tb_⟩,⟨tb_⟩,⟨th_⟩⟩
 case round =>
 clear H'
 try clear c1;try clear c2;try clear p2;try clear c3;try clear c5;try clear c6;try clear p6;try clear c9;try clear cr;try clear dn;try clear fa;try clear fb;try clear fc;try clear fd;try clear g7;try clear g8;try clear g9;try clear ga;try clear gb;try clear dw;try clear gc;try clear gd;try clear ge;try clear gf;try clear gh;try clear dh;try clear ck;try clear da;try clear e3;try clear hm;try clear hu;try clear i0;try clear i1;try clear i2;try clear i3;try clear df;try clear d8;try clear d9;try clear e4;try clear di;try clear df;try clear d8;try clear d9;try clear e4;try clear di;try clear p2;try clear p6
 obtain ⟨br,b4,aw,u331002,rfl,HA,HK3,a8,HO_331002,a5,a6,a7,aa,HB⟩:=hrel
 cases gk with
 | zero=>exact absurd HA.out (by simp [spec_ReadPart.l0])
 | succ k3 =>
 have H:=HA.out
 clear HA
 simp only [spec_ReadPart.l0] at H
 have e5:=m_ H
 clear H
 obtain ⟨db,dc,bl,bj⟩:=an4_ d7 d6 ba bb
 have e6:=bb4_ a6.out
 go_upto_if 75 with (fail)
 (try clear dc ch db bl cj bj bu cg ci bs)
 (try clear d8)
 (try clear d9)
 (try clear di)
 (try clear e6)
 (try clear d8)
 (try clear d9)
 (try clear di)
 (try clear e6)
 have H:=e5.out
 clear e5
 by_cases dy:br < al
 rotate_left
 ·rw [if_neg dy] at H
  have ct:=df_ dy
  clear dy
  (first|rw [ct]|(simp only [i64_w,i32_w];rw [ct])|skip)
  simp only [Option.some.injEq,Prod.mk.injEq] at H
  obtain ⟨rfl,rfl,rfl,rfl⟩:=H
  obtain ⟨cg,ch,ci,cj,bs,bu⟩:=an6_ bw bv bz bx bq bp
  have fh:=bb3_ aa.out
  obtain ⟨ce,cf,bj,bl⟩:=an4_ bo bn bb ba
  have fi:=bb3_ a7.out
  obtain ⟨e7,e8,e9⟩:=Kd.S_slice HO_331002.out
  subst e9
  go_wp2
  refine bodyPost_ret (results_ct rfl _ _ b1 31 #[.int .i64 b9,.slice cn bc.length co,.slice e7 aw.length e8] (0,0) _ rfl tb_ Tryz.underlying31 rfl kr_) rfl ?_
  exact ⟨_,_,tq_1,(by (with_reducible repeat (first|apply Kd.R_alloc|apply Kd.R_drewN|apply Kd.R_drew));exact Kd.R_mono (rR_ (rR_ (rR_ (Kd.R_types a8.out a7.out (by decide))))) (fun _ hk=>trivial)),(by (with_reducible repeat (first|apply Kd.S_alloc|apply Kd.S_drewN|apply Kd.S_drew));exact Kd.S_mono (rS_ (rS_ (rS_ (Kd.S_types HO_331002.out a7.out (by decide))))) (fun _ hk=>trivial)),th_⟩
 rw [if_pos dy] at H
 have ct:=de_ dy
 clear dy
 (first|rw [ct]|(simp only [i64_w,i32_w];rw [ct])|skip)
 obtain ⟨cq,fj,H⟩:=bd_ H
 obtain ⟨bi,eu,H⟩:=bd_ H
 obtain ⟨⟨b5,b6,b7,b8,ax,ay,cu⟩,em,H⟩:=bd_ H
 try dsimp -simprocs only at H
 have ea:=m_ H
 clear H
 try go_wp2
 have z_:=p_ (Kd.R_drew a8.out) <| p_ (Kd.S_drew HO_331002.out) <| dw4_ a5 a6 a7 aa HB
 clear a8 HO_331002 a5 a6 a7 aa HB
 obtain ⟨a8,HO_331002,a5,a6,a7,aa,HB⟩:=z_
 refine start_ (n:=13) (S:=fun w'=>w'.cell? ⟨aj,0,none⟩=some (.string ap)∧w'.cell? ⟨aj,1,none⟩=some (.slice az ah.length b0)∧w'.cell? ⟨af,0,none⟩=some (.int .i64 ak)∧w'.cell? ⟨af,1,none⟩=some (.int .i64 ai)∧w'.cell? ⟨af,2,none⟩=some (.int .i64 al)∧w'.cell? ⟨af,3,none⟩=some (.int .i64 am)) (ds:=[]) bq_30 kr_ rfl rfl (bc2_ a5.out (bk4_ a6.out)) (fun hHeld=>?_);refine with_tabW spec_ReadPart.tab14 spec_ReadPart.bits14 (fun HT_ HW_=>?_)
 generalize wr.drew=i4 at a8 HO_331002 a5 a6 a7 aa HB hHeld ⊢
 refine yr_ 2 81 bq_99 HT_ ?_
 refine yr_ 3 82 bq_267 HT_ ?_
 refine tr_ 0 79 bq_268 HT_ HW_ hHeld ?_
 refine tr_ 1 80 bq_269 HT_ HW_ hHeld ?_
 refine join_ (σ:=Value × Value × Value × Nat) 2 bq_0 (fun s_=>[(83,.int .i64 cq),(84,s_.1),(85,.tuple #[.agg #[.int .i64 b5,.int .i64 b6,.int .i64 b7,.string b8,s_.2.1,s_.2.2.1],.bool cu]),(15,.pointer (some ⟨s_.2.2.2,0,none⟩)),(78,.tuple #[.agg #[.int .i64 b5,.int .i64 b6,.int .i64 b7,.string b8,s_.2.1,s_.2.2.1],.bool cu]),(86,.agg #[.int .i64 b5,.int .i64 b6,.int .i64 b7,.string b8,s_.2.1,s_.2.2.1]),(87,.bool cu)]) (fun s_ w'=>(w'.cell? ⟨aj,0,none⟩=some (.string ap)∧w'.cell? ⟨aj,1,none⟩=some (.slice az ah.length b0)∧w'.cell? ⟨af,0,none⟩=some (.int .i64 ak)∧w'.cell? ⟨af,1,none⟩=some (.int .i64 ai)∧w'.cell? ⟨af,2,none⟩=some (.int .i64 al)∧w'.cell? ⟨af,3,none⟩=some (.int .i64 am))∧(Kd.R Kd.string 9 w' w.heap.size (fun _=>True) s_.1 bi)∧(Kd.R k86 86 w' w.heap.size (fun _=>True) s_.2.1 ax)∧(Kd.R k90 90 w' w.heap.size (fun _=>True) s_.2.2.1 ay)∧(Kd.R (Kd.int .i64) 3 w' w.heap.size (fun _=>True) (.slice cn bc.length co) bc)∧(Kd.S k62 62 w' w.heap.size (fun k_=>some k_≠(s_.2.1:Value).ownBlock∧some k_≠(s_.2.2.1:Value).ownBlock∧k_≠s_.2.2.2) u331002 aw)∧(w'.heap[aj]?=some (.cells #[.string ap,.slice az ah.length b0] 36 (0,0)))∧(w'.heap[af]?=some (.cells #[.int .i64 ak,.int .i64 ai,.int .i64 al,.int .i64 am] 38 (0,0)))∧(w'.heap[b1]?=some (.cells #[.int .i64 b4,.slice none 0 0,.slice none 0 0] 31 (0,0)))∧(w'.heap[ag]?=some (.cells #[.int .i64 b9,.slice cn bc.length co,u331002] 31 (0,0)))∧(w'.heap[s_.2.2.2]?=some (.cells #[.int .i64 0,.int .i64 0,.int .i64 0,.string (⟨#[]⟩:ByteArray),.slice none 0 0,.slice none 0 0] 62 (0,0)))∧(w.heap.size≤s_.2.2.2)∧(w.heap.size≤s_.2.2.2)∧(aj≠s_.2.2.2)∧(s_.2.2.2≠aj)∧(af≠s_.2.2.2)∧(s_.2.2.2≠af)∧(b1≠s_.2.2.2)∧(s_.2.2.2≠b1)∧(ag≠s_.2.2.2)∧(s_.2.2.2≠ag)∧(Below w.heap.size w w')) ?_ ?_
 rotate_left
 ·intro hCont
  refine two_ (i:=4) (j:=10) (Ni:=some 83) (Nj:=some 15) bq_270 bq_271 rfl rfl rfl rfl (two_of HT_.out kr_) (by decide) (by decide) (fun K hK=>?_) (fun K hK=>?_)
  ·skip
   refine goes_ Tryz.func27 kr_ rfl #[.agg #[.int .i64 ak,.int .i64 ai,.int .i64 al,.int .i64 am],.int .i64 a2,.int .i64 br] (by rfl) rfl rfl tq_0 ?_
   with_reducible refine (spec_InodeAt.calls ak ai al am a2 br cq _ fj.out).mono ?_
   rintro e gi ⟨rfl,hb⟩
   refine ⟨_,rfl,?_⟩
   have z_:=p_ (Kd.R_below (raR_ a8) hb) <| p_ (Kd.S_below (raS_ HO_331002) hb) <| bw4_ (kb_ a5) (kb_ a6) (kb_ a7) (kb_ aa) th_ hb
   clear a8 HO_331002 a5 a6 a7 aa HB
   obtain ⟨a8,HO_331002,a5,a6,a7,aa,HB⟩:=z_
   (try clear hb)
   refine hK.out _ _ (bc2_ a5.out (bk4_ a6.out)) (fun hHeld=>?_)
   clear hK K
   refine nm_ (some 83) ?_
   refine two_ (i:=5) (j:=10) (Ni:=some 84) (Nj:=some 15) bq_272 bq_102 rfl rfl rfl rfl (two_of HT_.out kr_) (by decide) (by decide) (fun K hK=>?_) (fun K hK=>?_)
   ·skip
    refine goes_ Tryz.func23 kr_ rfl #[.agg #[.string ap,.slice az ah.length b0],.int .i64 cq,.int .i64 8] (by rfl) rfl rfl tq_0 ?_
    with_reducible refine (spec_l14Words.calls k3 ap _ _ ah cq 8 bi _ ?side1 ?side2 eu.out).mono ?_
    (case side1=>exact tq_4)
    (case side2=>exact ca.out)
    rintro e fk ⟨v346,rfl,ho0,hb⟩
    refine ⟨_,rfl,?_⟩
    have z_:=p_ (Kd.R_below (raR_ a8) hb) <| p_ (Kd.S_below (raS_ HO_331002) hb) <| p_ (Kd.R_lower ho0 (below_size th_)) <| bw4_ (kb_ a5) (kb_ a6) (kb_ a7) (kb_ aa) th_ hb
    clear a8 HO_331002 a5 a6 a7 aa HB
    obtain ⟨a8,HO_331002,HO347,a5,a6,a7,aa,HB⟩:=z_
    (try clear hb)
    (try clear ho0)
    obtain ⟨eb,ec,ed⟩:=Kd.R_slice HO347.out
    (first|subst ed|(injection ed with f1_ f2_ f3_;have f4_:=f1_.symm;have f5_:=f3_.symm;clear f1_ f2_ f3_;subst f4_;subst f5_))
    refine hK.out _ _ (bc2_ a5.out (bk4_ a6.out)) (fun hHeld=>?_)
    clear hK K
    refine nm_ (some 84) ?_
    refine two_ (i:=6) (j:=10) (Ni:=some 85) (Nj:=some 15) bq_100 bq_21 rfl rfl rfl rfl (two_of HT_.out kr_) (by decide) (by decide) (fun K hK=>?_) (fun K hK=>?_)
    ·skip
     refine goes_ Tryz.func26 kr_ rfl #[.slice eb bi.length ec] (by rfl) rfl rfl tq_0 ?_
     with_reducible refine (spec_ReadInode.calls k3 _ _ bi b5 b6 b7 b8 ax ay cu _ ?side1 ?side2 em.out).mono ?_
     (case side1=>exact tq_47)
     (case side2=>exact (Kd.R_reads' HO347.out).2.1)
     rintro e i5 ⟨v353,v356,rfl,ho0,ho1,hb⟩
     refine ⟨_,rfl,?_⟩
     have z_:=p_ (Kd.R_below (raR_ a8) hb) <| p_ (Kd.S_mono (Kd.S_told (Kd.S_told (Kd.S_old (raS_ HO_331002) hb) (Kd.R_base ho0)) (Kd.R_base ho1)) (fun _ h_=>h_.1)) <| p_ (Kd.R_below (raR_ HO347) hb) <| p_ (Kd.R_lower ho0 (below_size th_)) <| p_ (Kd.R_lower ho1 (below_size th_)) <| bw4_ (kb_ a5) (kb_ a6) (kb_ a7) (kb_ aa) th_ hb
     clear a8 HO_331002 HO347 a5 a6 a7 aa HB
     obtain ⟨a8,HO_331002,HO347,b2,b3,a5,a6,a7,aa,HB⟩:=z_
     (try clear hb)
     (try clear ho0)
     (try clear ho1)
     refine hK.out _ _ (bc2_ a5.out (bk4_ a6.out)) (fun hHeld=>?_)
     clear hK K
     refine nm_ (some 85) ?_
     refine yr_ 7 78 bq_101 HT_ ?_
     refine yr_ 8 86 bq_31 HT_ ?_
     refine yr_ 9 87 bq_32 HT_ ?_
     refine one_ (i:=10) (N:=some 15) bq_0 rfl rfl (one_of HT_.out kr_) (by decide) (fun K hK=>?_)
     refine box_step ?hg (N:=15) ?hd (cs:=#[.int .i64 0,.int .i64 0,.int .i64 0,.string (⟨#[]⟩:ByteArray),.slice none 0 0,.slice none 0 0]) (t:=62) ?hr ?_;(case hd=>rfl);(case hg=>rfl);(case hr=>first|(go_simp;done)|(go_simp;rfl))
     intro a9 hg ev hbox hb
     have z_:=p_ (Kd.R_below (raR_ a8) hb) <| p_ (Kd.S_below (Kd.S_elderB (raS_ HO_331002) a9 (Nat.le_of_eq hg.symm)) hb) <| p_ (Kd.R_below (raR_ HO347) hb) <| p_ (Kd.R_below (raR_ b2) hb) <| p_ (Kd.R_below (raR_ b3) hb) <| bx4_ (kb_ a5) (kb_ a6) (kb_ a7) (kb_ aa) th_ hb hbox hg
     clear a8 HO_331002 HO347 b2 b3 a5 a6 a7 aa HB
     obtain ⟨a8,HO_331002,HO347,b2,b3,a5,a6,a7,aa,HB,ac,cc,cd,ae,aq,ab,ar,an,ao,au,av⟩:=z_
     clear hb hbox hg
     refine hK.out _ _ (bc2_ a5.out (bk4_ a6.out)) (fun hHeld=>?_)
     clear hK K
     refine nm_ (some 15) ?_
     exact norm_ tq_10 (hCont (.slice eb bi.length ec,v353,v356,a9) _ ⟨hHeld,(raR_ HO347),(raR_ b2),(raR_ b3),(raR_ a8),(by (with_reducible repeat (first|apply Kd.S_alloc|apply Kd.S_drewN|apply Kd.S_drew));exact Kd.S_mono HO_331002.out (fun _ hk=>⟨hk.1.1.2,⟨hk.1.2,hk.2⟩⟩)),(kb_ a5),(kb_ a6),(kb_ a7),(kb_ aa),(kb_ ac),cc.out,cd.out,ae.out,aq.out,ab.out,ar.out,an.out,ao.out,au.out,av.out,th_⟩)
    ·skip
     refine box_step ?hg (N:=15) ?hd (cs:=#[.int .i64 0,.int .i64 0,.int .i64 0,.string (⟨#[]⟩:ByteArray),.slice none 0 0,.slice none 0 0]) (t:=62) ?hr ?_;(case hd=>rfl);(case hg=>rfl);(case hr=>first|(go_simp;done)|(go_simp;rfl))
     intro a9 hg fl hbox hb
     have z_:=p_ (Kd.R_below (raR_ a8) hb) <| p_ (Kd.S_below (Kd.S_elderB (raS_ HO_331002) a9 (Nat.le_of_eq hg.symm)) hb) <| p_ (Kd.R_below (raR_ HO347) hb) <| bx4_ (kb_ a5) (kb_ a6) (kb_ a7) (kb_ aa) th_ hb hbox hg
     clear a8 HO_331002 HO347 a5 a6 a7 aa HB
     obtain ⟨a8,HO_331002,HO347,a5,a6,a7,aa,HB,ac,cc,cd,ae,aq,ab,ar,an,ao,au,av⟩:=z_
     clear hb hbox hg
     obtain ⟨cv,cw,cx⟩:=Kd.R_slice HO347.out
     (first|subst cx|(injection cx with f1_ f2_ f3_;have f4_:=f1_.symm;have f5_:=f3_.symm;clear f1_ f2_ f3_;subst f4_;subst f5_))
     refine hK.out _ _ (bc2_ a5.out (bk4_ a6.out)) (fun hHeld=>?_)
     clear hK K
     refine nm_ (some 15) ?_
     refine one_ (i:=6) (N:=some 85) bq_22 rfl rfl (one_of HT_.out kr_) (by decide) (fun K hK=>?_)
     refine goes_ Tryz.func26 kr_ rfl #[.slice cv bi.length cw] (by rfl) rfl rfl tq_0 ?_
     with_reducible refine (spec_ReadInode.calls k3 _ _ bi b5 b6 b7 b8 ax ay cu _ ?side1 ?side2 em.out).mono ?_
     (case side1=>exact tq_47)
     (case side2=>exact (Kd.R_reads' HO347.out).2.1)
     rintro e ev ⟨v353,v356,rfl,ho0,ho1,hb⟩
     refine ⟨_,rfl,?_⟩
     have z_:=p_ (Kd.R_below (raR_ a8) hb) <| p_ (Kd.S_mono (Kd.S_told (Kd.S_told (Kd.S_old (raS_ HO_331002) hb) (Kd.R_base ho0)) (Kd.R_base ho1)) (fun _ h_=>h_.1)) <| p_ (Kd.R_below (raR_ HO347) hb) <| p_ (Kd.R_lower ho0 (below_size th_)) <| p_ (Kd.R_lower ho1 (below_size th_)) <| bw5_ (kb_ a5) (kb_ a6) (kb_ a7) (kb_ aa) (kb_ ac) th_ hb
     clear a8 HO_331002 HO347 a5 a6 a7 aa ac HB
     obtain ⟨a8,HO_331002,HO347,b2,b3,a5,a6,a7,aa,ac,HB⟩:=z_
     (try clear hb)
     (try clear ho0)
     (try clear ho1)
     refine hK.out _ _ (bc2_ a5.out (bk4_ a6.out)) (fun hHeld=>?_)
     clear hK K
     refine nm_ (some 85) ?_
     refine yr_ 7 78 bq_23 HT_ ?_
     refine yr_ 8 86 bq_24 HT_ ?_
     refine yr_ 9 87 bq_0 HT_ ?_
     exact norm_ tq_10 (hCont (.slice cv bi.length cw,v353,v356,a9) _ ⟨hHeld,(raR_ HO347),(raR_ b2),(raR_ b3),(raR_ a8),tq_67,(kb_ a5),(kb_ a6),(kb_ a7),(kb_ aa),(kb_ ac),cc.out,cd.out,ae.out,aq.out,ab.out,ar.out,an.out,ao.out,au.out,av.out,th_⟩)
   ·skip
    refine box_step ?hg (N:=15) ?hd (cs:=#[.int .i64 0,.int .i64 0,.int .i64 0,.string (⟨#[]⟩:ByteArray),.slice none 0 0,.slice none 0 0]) (t:=62) ?hr ?_;(case hd=>rfl);(case hg=>rfl);(case hr=>first|(go_simp;done)|(go_simp;rfl))
    intro a9 hg fk hbox hb
    have z_:=p_ (Kd.R_below (raR_ a8) hb) <| p_ (Kd.S_below (Kd.S_elderB (raS_ HO_331002) a9 (Nat.le_of_eq hg.symm)) hb) <| bx4_ (kb_ a5) (kb_ a6) (kb_ a7) (kb_ aa) th_ hb hbox hg
    clear a8 HO_331002 a5 a6 a7 aa HB
    obtain ⟨a8,HO_331002,a5,a6,a7,aa,HB,ac,cc,cd,ae,aq,ab,ar,an,ao,au,av⟩:=z_
    clear hb hbox hg
    refine hK.out _ _ (bc2_ a5.out (bk4_ a6.out)) (fun hHeld=>?_)
    clear hK K
    refine nm_ (some 15) ?_
    refine one_ (i:=5) (N:=some 84) bq_21 rfl rfl (one_of HT_.out kr_) (by decide) (fun K hK=>?_)
    refine goes_ Tryz.func23 kr_ rfl #[.agg #[.string ap,.slice az ah.length b0],.int .i64 cq,.int .i64 8] (by rfl) rfl rfl tq_0 ?_
    with_reducible refine (spec_l14Words.calls k3 ap _ _ ah cq 8 bi _ ?side1 ?side2 eu.out).mono ?_
    (case side1=>exact tq_4)
    (case side2=>exact ca.out)
    rintro e fl ⟨v346,rfl,ho0,hb⟩
    refine ⟨_,rfl,?_⟩
    have z_:=p_ (Kd.R_below (raR_ a8) hb) <| p_ (Kd.S_below (raS_ HO_331002) hb) <| p_ (Kd.R_lower ho0 (below_size th_)) <| bw5_ (kb_ a5) (kb_ a6) (kb_ a7) (kb_ aa) (kb_ ac) th_ hb
    clear a8 HO_331002 a5 a6 a7 aa ac HB
    obtain ⟨a8,HO_331002,HO347,a5,a6,a7,aa,ac,HB⟩:=z_
    (try clear hb)
    (try clear ho0)
    obtain ⟨cv,cw,cx⟩:=Kd.R_slice HO347.out
    (first|subst cx|(injection cx with f1_ f2_ f3_;have f4_:=f1_.symm;have f5_:=f3_.symm;clear f1_ f2_ f3_;subst f4_;subst f5_))
    refine hK.out _ _ (bc2_ a5.out (bk4_ a6.out)) (fun hHeld=>?_)
    clear hK K
    refine nm_ (some 84) ?_
    refine one_ (i:=6) (N:=some 85) bq_22 rfl rfl (one_of HT_.out kr_) (by decide) (fun K hK=>?_)
    refine goes_ Tryz.func26 kr_ rfl #[.slice cv bi.length cw] (by rfl) rfl rfl tq_0 ?_
    with_reducible refine (spec_ReadInode.calls k3 _ _ bi b5 b6 b7 b8 ax ay cu _ ?side1 ?side2 em.out).mono ?_
    (case side1=>exact tq_47)
    (case side2=>exact (Kd.R_reads' HO347.out).2.1)
    rintro e ev ⟨v353,v356,rfl,ho0,ho1,hb⟩
    refine ⟨_,rfl,?_⟩
    have z_:=p_ (Kd.R_below (raR_ a8) hb) <| p_ (Kd.S_mono (Kd.S_told (Kd.S_told (Kd.S_old (raS_ HO_331002) hb) (Kd.R_base ho0)) (Kd.R_base ho1)) (fun _ h_=>h_.1)) <| p_ (Kd.R_below (raR_ HO347) hb) <| p_ (Kd.R_lower ho0 (below_size th_)) <| p_ (Kd.R_lower ho1 (below_size th_)) <| bw5_ (kb_ a5) (kb_ a6) (kb_ a7) (kb_ aa) (kb_ ac) th_ hb
    clear a8 HO_331002 HO347 a5 a6 a7 aa ac HB
    obtain ⟨a8,HO_331002,HO347,b2,b3,a5,a6,a7,aa,ac,HB⟩:=z_
    (try clear hb)
    (try clear ho0)
    (try clear ho1)
    refine hK.out _ _ (bc2_ a5.out (bk4_ a6.out)) (fun hHeld=>?_)
    clear hK K
    refine nm_ (some 85) ?_
    refine yr_ 7 78 bq_23 HT_ ?_
    refine yr_ 8 86 bq_24 HT_ ?_
    refine yr_ 9 87 bq_0 HT_ ?_
    exact norm_ tq_10 (hCont (.slice cv bi.length cw,v353,v356,a9) _ ⟨hHeld,(raR_ HO347),(raR_ b2),(raR_ b3),(raR_ a8),tq_67,(kb_ a5),(kb_ a6),(kb_ a7),(kb_ aa),(kb_ ac),cc.out,cd.out,ae.out,aq.out,ab.out,ar.out,an.out,ao.out,au.out,av.out,th_⟩)
  ·skip
   refine box_step ?hg (N:=15) ?hd (cs:=#[.int .i64 0,.int .i64 0,.int .i64 0,.string (⟨#[]⟩:ByteArray),.slice none 0 0,.slice none 0 0]) (t:=62) ?hr ?_;(case hd=>rfl);(case hg=>rfl);(case hr=>first|(go_simp;done)|(go_simp;rfl))
   intro a9 hg gi hbox hb
   have z_:=p_ (Kd.R_below (raR_ a8) hb) <| p_ (Kd.S_below (Kd.S_elderB (raS_ HO_331002) a9 (Nat.le_of_eq hg.symm)) hb) <| bx4_ (kb_ a5) (kb_ a6) (kb_ a7) (kb_ aa) th_ hb hbox hg
   clear a8 HO_331002 a5 a6 a7 aa HB
   obtain ⟨a8,HO_331002,a5,a6,a7,aa,HB,ac,cc,cd,ae,aq,ab,ar,an,ao,au,av⟩:=z_
   clear hb hbox hg
   refine hK.out _ _ (bc2_ a5.out (bk4_ a6.out)) (fun hHeld=>?_)
   clear hK K
   refine nm_ (some 15) ?_
   refine one_ (i:=4) (N:=some 83) bq_102 rfl rfl (one_of HT_.out kr_) (by decide) (fun K hK=>?_)
   refine goes_ Tryz.func27 kr_ rfl #[.agg #[.int .i64 ak,.int .i64 ai,.int .i64 al,.int .i64 am],.int .i64 a2,.int .i64 br] (by rfl) rfl rfl tq_0 ?_
   with_reducible refine (spec_InodeAt.calls ak ai al am a2 br cq _ fj.out).mono ?_
   rintro e fk ⟨rfl,hb⟩
   refine ⟨_,rfl,?_⟩
   have z_:=p_ (Kd.R_below (raR_ a8) hb) <| p_ (Kd.S_below (raS_ HO_331002) hb) <| bw5_ (kb_ a5) (kb_ a6) (kb_ a7) (kb_ aa) (kb_ ac) th_ hb
   clear a8 HO_331002 a5 a6 a7 aa ac HB
   obtain ⟨a8,HO_331002,a5,a6,a7,aa,ac,HB⟩:=z_
   (try clear hb)
   refine hK.out _ _ (bc2_ a5.out (bk4_ a6.out)) (fun hHeld=>?_)
   clear hK K
   refine nm_ (some 83) ?_
   refine one_ (i:=5) (N:=some 84) bq_21 rfl rfl (one_of HT_.out kr_) (by decide) (fun K hK=>?_)
   refine goes_ Tryz.func23 kr_ rfl #[.agg #[.string ap,.slice az ah.length b0],.int .i64 cq,.int .i64 8] (by rfl) rfl rfl tq_0 ?_
   with_reducible refine (spec_l14Words.calls k3 ap _ _ ah cq 8 bi _ ?side1 ?side2 eu.out).mono ?_
   (case side1=>exact tq_4)
   (case side2=>exact ca.out)
   rintro e fl ⟨v346,rfl,ho0,hb⟩
   refine ⟨_,rfl,?_⟩
   have z_:=p_ (Kd.R_below (raR_ a8) hb) <| p_ (Kd.S_below (raS_ HO_331002) hb) <| p_ (Kd.R_lower ho0 (below_size th_)) <| bw5_ (kb_ a5) (kb_ a6) (kb_ a7) (kb_ aa) (kb_ ac) th_ hb
   clear a8 HO_331002 a5 a6 a7 aa ac HB
   obtain ⟨a8,HO_331002,HO347,a5,a6,a7,aa,ac,HB⟩:=z_
   (try clear hb)
   (try clear ho0)
   obtain ⟨cv,cw,cx⟩:=Kd.R_slice HO347.out
   (first|subst cx|(injection cx with f1_ f2_ f3_;have f4_:=f1_.symm;have f5_:=f3_.symm;clear f1_ f2_ f3_;subst f4_;subst f5_))
   refine hK.out _ _ (bc2_ a5.out (bk4_ a6.out)) (fun hHeld=>?_)
   clear hK K
   refine nm_ (some 84) ?_
   refine one_ (i:=6) (N:=some 85) bq_22 rfl rfl (one_of HT_.out kr_) (by decide) (fun K hK=>?_)
   refine goes_ Tryz.func26 kr_ rfl #[.slice cv bi.length cw] (by rfl) rfl rfl tq_0 ?_
   with_reducible refine (spec_ReadInode.calls k3 _ _ bi b5 b6 b7 b8 ax ay cu _ ?side1 ?side2 em.out).mono ?_
   (case side1=>exact tq_47)
   (case side2=>exact (Kd.R_reads' HO347.out).2.1)
   rintro e ev ⟨v353,v356,rfl,ho0,ho1,hb⟩
   refine ⟨_,rfl,?_⟩
   have z_:=p_ (Kd.R_below (raR_ a8) hb) <| p_ (Kd.S_mono (Kd.S_told (Kd.S_told (Kd.S_old (raS_ HO_331002) hb) (Kd.R_base ho0)) (Kd.R_base ho1)) (fun _ h_=>h_.1)) <| p_ (Kd.R_below (raR_ HO347) hb) <| p_ (Kd.R_lower ho0 (below_size th_)) <| p_ (Kd.R_lower ho1 (below_size th_)) <| bw5_ (kb_ a5) (kb_ a6) (kb_ a7) (kb_ aa) (kb_ ac) th_ hb
   clear a8 HO_331002 HO347 a5 a6 a7 aa ac HB
   obtain ⟨a8,HO_331002,HO347,b2,b3,a5,a6,a7,aa,ac,HB⟩:=z_
   (try clear hb)
   (try clear ho0)
   (try clear ho1)
   refine hK.out _ _ (bc2_ a5.out (bk4_ a6.out)) (fun hHeld=>?_)
   clear hK K
   refine nm_ (some 85) ?_
   refine yr_ 7 78 bq_23 HT_ ?_
   refine yr_ 8 86 bq_24 HT_ ?_
   refine yr_ 9 87 bq_0 HT_ ?_
   exact norm_ tq_10 (hCont (.slice cv bi.length cw,v353,v356,a9) _ ⟨hHeld,(raR_ HO347),(raR_ b2),(raR_ b3),(raR_ a8),tq_67,(kb_ a5),(kb_ a6),(kb_ a7),(kb_ aa),(kb_ ac),cc.out,cd.out,ae.out,aq.out,ab.out,ar.out,an.out,ao.out,au.out,av.out,th_⟩)
 rintro ⟨v346,v353,v356,a9⟩ bm ⟨hS_,h0_,h1_,h2_,h3_,h4_,h5_,h6_,h7_,h8_,h9_,h10_,h11_,h12_,h13_,h14_,h15_,h16_,h17_,h18_,h19_,h20_⟩
 have z_:=q_ (⟨h0_⟩:Aside0 (Kd.R Kd.string 9 bm w.heap.size (fun _=>True) v346 bi)) <| q_ (⟨h1_⟩:Aside0 (Kd.R k86 86 bm w.heap.size (fun _=>True) v353 ax)) <| q_ (⟨h2_⟩:Aside0 (Kd.R k90 90 bm w.heap.size (fun _=>True) v356 ay)) <| q_ (⟨h3_⟩:Aside0 (Kd.R (Kd.int .i64) 3 bm w.heap.size (fun _=>True) (.slice cn bc.length co) bc)) <| q_ (⟨h4_⟩:Aside0 (Kd.S k62 62 bm w.heap.size (fun k_=>some k_≠(v353:Value).ownBlock∧some k_≠(v356:Value).ownBlock∧k_≠a9) u331002 aw)) <| q_ (⟨h5_⟩:Aside0 (bm.heap[aj]?=some (.cells #[.string ap,.slice az ah.length b0] 36 (0,0)))) <| q_ (⟨h6_⟩:Aside0 (bm.heap[af]?=some (.cells #[.int .i64 ak,.int .i64 ai,.int .i64 al,.int .i64 am] 38 (0,0)))) <| q_ (⟨h7_⟩:Aside0 (bm.heap[b1]?=some (.cells #[.int .i64 b4,.slice none 0 0,.slice none 0 0] 31 (0,0)))) <| q_ (⟨h8_⟩:Aside0 (bm.heap[ag]?=some (.cells #[.int .i64 b9,.slice cn bc.length co,u331002] 31 (0,0)))) <| q_ (⟨h9_⟩:Aside0 (bm.heap[a9]?=some (.cells #[.int .i64 0,.int .i64 0,.int .i64 0,.string (⟨#[]⟩:ByteArray),.slice none 0 0,.slice none 0 0] 62 (0,0)))) <| q_ (⟨h10_⟩:Aside0 (w.heap.size≤a9)) <| q_ (⟨h11_⟩:Aside0 (w.heap.size≤a9)) <| q_ (⟨h12_⟩:Aside0 (aj≠a9)) <| q_ (⟨h13_⟩:Aside0 (a9≠aj)) <| q_ (⟨h14_⟩:Aside0 (af≠a9)) <| q_ (⟨h15_⟩:Aside0 (a9≠af)) <| q_ (⟨h16_⟩:Aside0 (b1≠a9)) <| q_ (⟨h17_⟩:Aside0 (a9≠b1)) <| q_ (⟨h18_⟩:Aside0 (ag≠a9)) <| q_ (⟨h19_⟩:Aside0 (a9≠ag)) <| (⟨h20_⟩:Aside0 (Below w.heap.size w bm))
 clear a8 HO_331002 a5 a6 a7 aa HB h0_ h1_ h2_ h3_ h4_ h5_ h6_ h7_ h8_ h9_ h10_ h11_ h12_ h13_ h14_ h15_ h16_ h17_ h18_ h19_ h20_
 obtain ⟨HO347,b2,b3,a8,HO_331002,a5,a6,a7,aa,ac,cc,cd,ae,aq,ab,ar,an,ao,au,av,HB⟩:=z_
 have hHeld:bm.cell? ⟨aj,0,none⟩=some (.string ap)∧bm.cell? ⟨aj,1,none⟩=some (.slice az ah.length b0)∧bm.cell? ⟨af,0,none⟩=some (.int .i64 ak)∧bm.cell? ⟨af,1,none⟩=some (.int .i64 ai)∧bm.cell? ⟨af,2,none⟩=some (.int .i64 al)∧bm.cell? ⟨af,3,none⟩=some (.int .i64 am):=hS_
 obtain ⟨bd,be,ee⟩:=Kd.R_slice b2.out
 (first|subst ee|(injection ee with f1_ f2_ f3_;have f4_:=f1_.symm;have f5_:=f3_.symm;clear f1_ f2_ f3_;subst f4_;subst f5_))
 obtain ⟨bf,bg,ef⟩:=Kd.R_slice b3.out
 (first|subst ef|(injection ef with f1_ f2_ f3_;have f4_:=f1_.symm;have f5_:=f3_.symm;clear f1_ f2_ f3_;subst f4_;subst f5_))
 refine norm_ (a':=?_) ?_ ?_
 rotate_left
 ·simp only [putAll,Act.put,List.setIfInBounds_toArray,List.set_cons_zero,List.set_cons_succ]
  rfl
 refine one_ (i:=11) (N:=none) bq_33 rfl rfl (one_of HT_.out kr_) (by decide) (fun K hK=>?_)
 have hs82:bm.cell? ⟨a9,0,none⟩=some (.int .i64 0):=(blk_cell ac.out 0).trans rfl
 have hfs82:=blk_frozen ac.out 0
 obtain ⟨cy,cz,cl,d0,d1,d2,cm,d3⟩:=an8_ ae ab an au aq ar ao av
 have hs83:bm.cell? ⟨a9,1,none⟩=some (.int .i64 0):=(blk_cell ac.out 1).trans rfl
 have hfs83:=blk_frozen ac.out 1
 have hs84:bm.cell? ⟨a9,2,none⟩=some (.int .i64 0):=(blk_cell ac.out 2).trans rfl
 have hfs84:=blk_frozen ac.out 2
 have hs85:bm.cell? ⟨a9,3,none⟩=some (.string (⟨#[]⟩:ByteArray)):=(blk_cell ac.out 3).trans rfl
 have hfs85:=blk_frozen ac.out 3
 have hs87:bm.cell? ⟨a9,4,none⟩=some (.slice none 0 0):=(blk_cell ac.out 4).trans rfl
 have hfs87:=blk_frozen ac.out 4
 have hs89:bm.cell? ⟨a9,5,none⟩=some (.slice none 0 0):=(blk_cell ac.out 5).trans rfl
 have hfs89:=blk_frozen ac.out 5
 refine skip_ (w1:=?_) (by rfl) rfl ?_ ?_
 rotate_left
 ·go_simp
  rfl
 refine hK.out _ _ ⟨(cf_ ae (cf_ ae (cf_ ae (cf_ ae (cf_ ae (cf_ ae hHeld.1)))))),(cf_ ae (cf_ ae (cf_ ae (cf_ ae (cf_ ae (cf_ ae hHeld.2.1)))))),(cf_ ab (cf_ ab (cf_ ab (cf_ ab (cf_ ab (cf_ ab hHeld.2.2.1)))))),(cf_ ab (cf_ ab (cf_ ab (cf_ ab (cf_ ab (cf_ ab hHeld.2.2.2.1)))))),(cf_ ab (cf_ ab (cf_ ab (cf_ ab (cf_ ab (cf_ ab hHeld.2.2.2.2.1)))))),(cf_ ab (cf_ ab (cf_ ab (cf_ ab (cf_ ab (cf_ ab hHeld.2.2.2.2.2))))))⟩ (fun hHeld=>?_)
 clear hK K
 refine yr_ 12 16 bq_34 HT_ ?_
 refine done_ (done_of HT_.out kr_) ?_
 have n0_:Aside0 (Kd.R (Kd.int .i64) 3 ((((((bm.setCell ⟨a9,0,none⟩ (.int .i64 b5)).setCell ⟨a9,1,none⟩ (.int .i64 b6)).setCell ⟨a9,2,none⟩ (.int .i64 b7)).setCell ⟨a9,3,none⟩ (.string b8)).setCell ⟨a9,4,none⟩ (.slice bd ax.length be)).setCell ⟨a9,5,none⟩ (.slice bf ay.length bg)) w.heap.size (fun _=>True) (.slice cn bc.length co) bc):=⟨(by (with_reducible repeat (first|apply Kd.R_alloc|apply Kd.R_drewN|apply Kd.R_drew));exact Kd.R_mono (rR_ (rR_ (rR_ (rR_ (rR_ (rR_ (Kd.R_types a8.out ac.out (by decide)))))))) (fun _ hk=>trivial))⟩
 have n1_:Aside0 (Kd.S k62 62 ((((((bm.setCell ⟨a9,0,none⟩ (.int .i64 b5)).setCell ⟨a9,1,none⟩ (.int .i64 b6)).setCell ⟨a9,2,none⟩ (.int .i64 b7)).setCell ⟨a9,3,none⟩ (.string b8)).setCell ⟨a9,4,none⟩ (.slice bd ax.length be)).setCell ⟨a9,5,none⟩ (.slice bf ay.length bg)) w.heap.size (fun k_=>some k_≠(.slice bd ax.length be:Value).ownBlock∧some k_≠(.slice bf ay.length bg:Value).ownBlock∧k_≠a9) u331002 aw):=⟨(by (with_reducible repeat (first|apply Kd.S_alloc|apply Kd.S_drewN|apply Kd.S_drew));exact Kd.S_mono (rS_ (rS_ (rS_ (rS_ (rS_ (rS_ (Kd.S_mono HO_331002.out (fun k_ hk=>(⟨hk,hk.2.2⟩:_∧k_≠a9))))))))) (fun _ hk=>⟨hk.1.1,⟨hk.1.2.1,hk.1.2.2⟩⟩))⟩
 have n2_:Aside0 (Kd.R Kd.string 9 ((((((bm.setCell ⟨a9,0,none⟩ (.int .i64 b5)).setCell ⟨a9,1,none⟩ (.int .i64 b6)).setCell ⟨a9,2,none⟩ (.int .i64 b7)).setCell ⟨a9,3,none⟩ (.string b8)).setCell ⟨a9,4,none⟩ (.slice bd ax.length be)).setCell ⟨a9,5,none⟩ (.slice bf ay.length bg)) w.heap.size (fun _=>True) v346 bi):=⟨(by (with_reducible repeat (first|apply Kd.R_alloc|apply Kd.R_drewN|apply Kd.R_drew));exact Kd.R_mono (rR_ (rR_ (rR_ (rR_ (rR_ (rR_ (Kd.R_types HO347.out ac.out (by decide)))))))) (fun _ hk=>trivial))⟩
 have n3_:Aside0 (Kd.R k86 86 ((((((bm.setCell ⟨a9,0,none⟩ (.int .i64 b5)).setCell ⟨a9,1,none⟩ (.int .i64 b6)).setCell ⟨a9,2,none⟩ (.int .i64 b7)).setCell ⟨a9,3,none⟩ (.string b8)).setCell ⟨a9,4,none⟩ (.slice bd ax.length be)).setCell ⟨a9,5,none⟩ (.slice bf ay.length bg)) w.heap.size (fun _=>True) (.slice bd ax.length be) ax):=⟨(by (with_reducible repeat (first|apply Kd.R_alloc|apply Kd.R_drewN|apply Kd.R_drew));exact Kd.R_mono (rR_ (rR_ (rR_ (rR_ (rR_ (rR_ (Kd.R_types b2.out ac.out (by decide)))))))) (fun _ hk=>trivial))⟩
 have n4_:Aside0 (Kd.R k90 90 ((((((bm.setCell ⟨a9,0,none⟩ (.int .i64 b5)).setCell ⟨a9,1,none⟩ (.int .i64 b6)).setCell ⟨a9,2,none⟩ (.int .i64 b7)).setCell ⟨a9,3,none⟩ (.string b8)).setCell ⟨a9,4,none⟩ (.slice bd ax.length be)).setCell ⟨a9,5,none⟩ (.slice bf ay.length bg)) w.heap.size (fun _=>True) (.slice bf ay.length bg) ay):=⟨(by (with_reducible repeat (first|apply Kd.R_alloc|apply Kd.R_drewN|apply Kd.R_drew));exact Kd.R_mono (rR_ (rR_ (rR_ (rR_ (rR_ (rR_ (Kd.R_types b3.out ac.out (by decide)))))))) (fun _ hk=>trivial))⟩
 have n5_:Aside0 (((((((bm.setCell ⟨a9,0,none⟩ (.int .i64 b5)).setCell ⟨a9,1,none⟩ (.int .i64 b6)).setCell ⟨a9,2,none⟩ (.int .i64 b7)).setCell ⟨a9,3,none⟩ (.string b8)).setCell ⟨a9,4,none⟩ (.slice bd ax.length be)).setCell ⟨a9,5,none⟩ (.slice bf ay.length bg)).heap[aj]?=some (.cells #[.string ap,.slice az ah.length b0] 36 (0,0))):=⟨tb_⟩
 have n6_:Aside0 (((((((bm.setCell ⟨a9,0,none⟩ (.int .i64 b5)).setCell ⟨a9,1,none⟩ (.int .i64 b6)).setCell ⟨a9,2,none⟩ (.int .i64 b7)).setCell ⟨a9,3,none⟩ (.string b8)).setCell ⟨a9,4,none⟩ (.slice bd ax.length be)).setCell ⟨a9,5,none⟩ (.slice bf ay.length bg)).heap[af]?=some (.cells #[.int .i64 ak,.int .i64 ai,.int .i64 al,.int .i64 am] 38 (0,0))):=⟨tb_⟩
 have n7_:Aside0 (((((((bm.setCell ⟨a9,0,none⟩ (.int .i64 b5)).setCell ⟨a9,1,none⟩ (.int .i64 b6)).setCell ⟨a9,2,none⟩ (.int .i64 b7)).setCell ⟨a9,3,none⟩ (.string b8)).setCell ⟨a9,4,none⟩ (.slice bd ax.length be)).setCell ⟨a9,5,none⟩ (.slice bf ay.length bg)).heap[b1]?=some (.cells #[.int .i64 b4,.slice none 0 0,.slice none 0 0] 31 (0,0))):=⟨tb_⟩
 have n8_:Aside0 (((((((bm.setCell ⟨a9,0,none⟩ (.int .i64 b5)).setCell ⟨a9,1,none⟩ (.int .i64 b6)).setCell ⟨a9,2,none⟩ (.int .i64 b7)).setCell ⟨a9,3,none⟩ (.string b8)).setCell ⟨a9,4,none⟩ (.slice bd ax.length be)).setCell ⟨a9,5,none⟩ (.slice bf ay.length bg)).heap[ag]?=some (.cells #[.int .i64 b9,.slice cn bc.length co,u331002] 31 (0,0))):=⟨tb_⟩
 have n9_:Aside0 (((((((bm.setCell ⟨a9,0,none⟩ (.int .i64 b5)).setCell ⟨a9,1,none⟩ (.int .i64 b6)).setCell ⟨a9,2,none⟩ (.int .i64 b7)).setCell ⟨a9,3,none⟩ (.string b8)).setCell ⟨a9,4,none⟩ (.slice bd ax.length be)).setCell ⟨a9,5,none⟩ (.slice bf ay.length bg)).heap[a9]?=some (.cells #[.int .i64 b5,.int .i64 b6,.int .i64 b7,.string b8,.slice bd ax.length be,.slice bf ay.length bg] 62 (0,0))):=⟨tb_⟩
 have n10_:Aside0 (Below w.heap.size w ((((((bm.setCell ⟨a9,0,none⟩ (.int .i64 b5)).setCell ⟨a9,1,none⟩ (.int .i64 b6)).setCell ⟨a9,2,none⟩ (.int .i64 b7)).setCell ⟨a9,3,none⟩ (.string b8)).setCell ⟨a9,4,none⟩ (.slice bd ax.length be)).setCell ⟨a9,5,none⟩ (.slice bf ay.length bg))):=⟨th_⟩
 (try clear a8)
 (try clear HO_331002)
 (try clear HO347)
 (try clear b2)
 (try clear b3)
 (try clear a5)
 (try clear a6)
 (try clear a7)
 (try clear aa)
 (try clear ac)
 (try clear HB)
 generalize ((((((bm.setCell ⟨a9,0,none⟩ (.int .i64 b5)).setCell ⟨a9,1,none⟩ (.int .i64 b6)).setCell ⟨a9,2,none⟩ (.int .i64 b7)).setCell ⟨a9,3,none⟩ (.string b8)).setCell ⟨a9,4,none⟩ (.slice bd ax.length be)).setCell ⟨a9,5,none⟩ (.slice bf ay.length bg))=i6 at n0_ n1_ n2_ n3_ n4_ n5_ n6_ n7_ n8_ n9_ n10_ ⊢
 have a8:=n0_
 have HO_331002:=n1_
 have HO347:=n2_
 have b2:=n3_
 have b3:=n4_
 have a5:=n5_
 have a6:=n6_
 have a7:=n7_
 have aa:=n8_
 have ac:=n9_
 have HB:=n10_
 clear n0_ n1_ n2_ n3_ n4_ n5_ n6_ n7_ n8_ n9_ n10_
 go_upto_if 89 with (fail)
 (try clear cy cz cl d0 d1 d2 cm d3)
 have H:=ea.out
 clear ea
 by_cases en:cu=true
 rotate_left
 ·replace en:=Bool.eq_false_iff.mpr en
  subst en
  rw [if_neg nf_] at H
  simp only [Option.some.injEq,Prod.mk.injEq] at H
  obtain ⟨rfl,rfl,rfl,rfl⟩:=H
  obtain ⟨ce,cf,bj,bl,bu,bs,cl,cm⟩:=an8_ bo bn bb ba bp bq an ao
  have fm:=bb3_ a7.out
  go_wp2
  refine bodyPost_ret (results_ct rfl _ _ b1 31 #[.int .i64 0,.slice none 0 0,.slice none 0 0] (0,0) _ rfl tb_ Tryz.underlying31 rfl kr_) rfl ?_
  exact ⟨_,_,tq_1,tq_5,tq_13,th_⟩
 subst en
 rw [if_pos rfl] at H
 obtain ⟨fn,H⟩:=fc_ H
 have eh:=m_ fn
 clear fn
 obtain ⟨dv,dd⟩:∃ y_:List (S62),y_=(aw++[(⟨b5,b6,b7,b8,ax,ay⟩:S62)]):=⟨_,rfl⟩
 replace H:(spec_ReadPart.l0 k3 a2 (wrap64 (br+1)) ap ah ak ai al am b9 bc dv)=some (r1,r2,r3,r4):=rh_ dd H
 have ei:=m_ dd
 clear dd
 have H':=m_ H
 clear H
 obtain ⟨cg,ch,ci,cj,bs,bu,d0,d3⟩:=an8_ bw bv bz bx bq bp au av
 have gj:=bb3_ aa.out
 obtain ⟨d1,cy,d2,cz,cm,cl⟩:=an6_ aq ae ar ab ao an
 have fo:=bb6_ ac.out
 go_wp2_with (first|((with_reducible refine gate_builtin (b:=.append) (xs:=#[.tmp 92,.tmp 94]) rfl ?_);at_builtin;refine Kd.S_append k62 (w0:=w) w.heap.size rfl (.tmp 92) (.tmp 94) 29 62 (.agg #[(.int .i64 0),(.int .i64 0),(.int .i64 0),(.string ⟨#[]⟩),(.slice none 0 0),(.slice none 0 0)]) 88 rfl Tryz.underlying29 info62 rfl (by decide) (by omega) u331002 aw (⟨b5,b6,b7,b8,ax,ay⟩:S62) [.int .i64 b5,.int .i64 b6,.int .i64 b7,.string b8,.slice bd ax.length be,.slice bf ay.length bg] (fun k_=>k_≠a9) (fun k_=>some k_=(.slice bd ax.length be:Value).ownBlock∨some k_=(.slice bf ay.length bg:Value).ownBlock) rfl rfl ?aP (fun k_ hk_=>hk_.elim (fun h_=>((Kd.R_mono (ok':=fun k_=>((fun k_=>k_≠a9)) k_∧some k_≠(u331002:Value).ownBlock) (Kd.R_types (Kd.R_apart' (b2.out) (Kd.S_typed HO_331002.out) (by decide)) ac.out (by decide)) (fun k_ hk=>⟨hk.2,hk.1.2⟩))).1 k_ h_.symm) (fun h_=>((Kd.R_mono (ok':=fun k_=>((fun k_=>k_≠a9)) k_∧some k_≠(u331002:Value).ownBlock) (Kd.R_types (Kd.R_apart' (b3.out) (Kd.S_typed HO_331002.out) (by decide)) ac.out (by decide)) (fun k_ hk=>⟨hk.2,hk.1.2⟩))).1 k_ h_.symm)) ?aF ?aO ?aB ?aS ?aL ?_;(case aP=>exact k62_mkM _ _ _ (⟨b5,b6,b7,b8,ax,ay⟩:S62) (Kd.R_mono (Kd.R_tight rfl (Kd.R_mono (ok':=fun k_=>((fun k_=>k_≠a9)) k_∧some k_≠(u331002:Value).ownBlock) (Kd.R_types (Kd.R_apart' (b2.out) (Kd.S_typed HO_331002.out) (by decide)) ac.out (by decide)) (fun k_ hk=>⟨hk.2,hk.1.2⟩))) (fun _ h_=>Or.inl h_)) (Kd.R_mono (Kd.R_tight rfl (Kd.R_mono (ok':=fun k_=>((fun k_=>k_≠a9)) k_∧some k_≠(u331002:Value).ownBlock) (Kd.R_types (Kd.R_apart' (b3.out) (Kd.S_typed HO_331002.out) (by decide)) ac.out (by decide)) (fun k_ hk=>⟨hk.2,hk.1.2⟩))) (fun _ h_=>Or.inr (h_))));(case aB=>exact th_);(case aF=>exact (fun k_ hk=>Kd.freshB (g:=a9) (o:=.cells #[.int .i64 b5,.int .i64 b6,.int .i64 b7,.string b8,.slice bd ax.length be,.slice bf ay.length bg] 62 (0,0)) (kb_ ac) k_ hk));(case aO=>exact (by (with_reducible repeat (first|apply Kd.S_alloc|apply Kd.S_drewN|apply Kd.S_drew));exact Kd.S_mono HO_331002.out (fun k_ hk=>⟨hk.2.2,fun e_=>e_.elim (fun h_=>hk.1 h_) (fun h_=>hk.2.1 h_)⟩)));(case aS=>exact (below_size th_));(case aL=>have:=eh.out;omega);intro v361 gl ho hb hg hat;rw [← ei.out] at ho;have z_:=p_ (Kd.R_over' (raR_ a8) (Kd.S_typed (raS_ HO_331002)) (by decide) hg) <| p_ (blk_grown (g:=aj) (o:=.cells #[.string ap,.slice az ah.length b0] 36 (0,0)) (kb_ a5) hg (Kd.S_ne HO_331002.out a5.out (by decide))) <| p_ (blk_grown (g:=af) (o:=.cells #[.int .i64 ak,.int .i64 ai,.int .i64 al,.int .i64 am] 38 (0,0)) (kb_ a6) hg (Kd.S_ne HO_331002.out a6.out (by decide))) <| p_ (blk_grown (g:=b1) (o:=.cells #[.int .i64 b4,.slice none 0 0,.slice none 0 0] 31 (0,0)) (kb_ a7) hg (Kd.S_ne HO_331002.out a7.out (by decide))) <| p_ (blk_grown (g:=ag) (o:=.cells #[.int .i64 b9,.slice cn bc.length co,u331002] 31 (0,0)) (kb_ aa) hg (Kd.S_ne HO_331002.out aa.out (by decide))) <| p_ (Kd.R_over' (raR_ HO347) (Kd.S_typed (raS_ HO_331002)) (by decide) hg) <| p_ (blk_grown (g:=a9) (o:=.cells #[.int .i64 b5,.int .i64 b6,.int .i64 b7,.string b8,.slice bd ax.length be,.slice bf ay.length bg] 62 (0,0)) (kb_ ac) hg (Kd.S_away HO_331002.out (fun _ hk=>hk.2.2))) <| p_ (hb) <| a_ (ho);clear a8 a5 a6 a7 aa HO347 ac HB HO_331002 b2 b3;obtain ⟨a8,a5,a6,a7,aa,HO347,ac,HB,dm⟩:=z_;clear ho hb hg hat;obtain ⟨ej,ek,el⟩:=Kd.S_slice dm.out;subst el;have fp:=bb3_ aa.out))
 go_roundg k3
 case measure=>have:=HJ3.out;have:=HJ33.out;have:=HK3.out;omega
 case rel=>exact ⟨(wrap64 (br+1)),(b4),(dv),(.slice ej dv.length ek),tq_3,H',⟨(by have:=HJ3.out;have:=HJ33.out;have:=HK3.out;omega)⟩,⟨(by (with_reducible repeat (first|apply Kd.R_alloc|apply Kd.R_drewN|apply Kd.R_drew));exact Kd.R_mono (rR_ (Kd.R_types a8.out aa.out (by decide))) (fun _ hk=>trivial))⟩,⟨(by (with_reducible repeat (first|apply Kd.S_alloc|apply Kd.S_drewN|apply Kd.S_drew));exact Kd.S_mono (rS_ (Kd.S_types dm.out aa.out (by decide))) (fun _ hk=>trivial))⟩,⟨tb_⟩,⟨tb_⟩,⟨tb_⟩,⟨tb_⟩,⟨th_⟩⟩

def laws_toCell.f (a5:Int) (a6:ByteArray) (a7:Bool):Option (Int × ByteArray × Bool):=some (a5,a6,a7)
theorem laws_toCell.calls (ae:Int) (af:ByteArray) (ag:Bool) (r1:Int) (r2:ByteArray) (r3:Bool) (w:World) (h:laws_toCell.f ae af ag=some (r1,r2,r3)) :
  Calls Tryz.prog 53 #[.agg #[.int .i64 ae,.string af,.bool ag]] w fun e w'=>e=.returned (.agg #[.int .i64 r1,.string r2,.bool r3])∧Below w.heap.size w w':=by
 have hu76:=Tryz.underlying76
 have hu78:=Tryz.underlying78
 have HB:=m_ (Below.refl w.heap.size w)
 unfold laws_toCell.f at h
 have H:=h
 clear h
 simp only [Option.some.injEq,Prod.mk.injEq] at H
 obtain ⟨rfl,rfl,rfl⟩:=H
 go_enter Tryz.func53,Tryz.ntmps53
 go_wp2_with (first|((with_reducible refine gate_dst (N:=1) rfl ?_);refine be_ 1 (cs:=#[.int .i64 ae,.string af,.bool ag]) 76 ?_;intro aj hg w2 hbox hb;have z_:=bx0_ th_ hb hbox hg;clear HB;obtain ⟨HB,a5,ak,al⟩:=z_;clear hb hbox hg)|((with_reducible refine gate_dst (N:=2) rfl ?_);refine be_ 2 (cs:=#[.int .i64 0,.string (⟨#[]⟩:ByteArray),.bool false]) 78 ?_;intro ah hg w3 hbox hb;have z_:=bx1_ (kb_ a5) th_ hb hbox hg;clear a5 HB;obtain ⟨a5,HB,a6,am,an,a7,a8⟩:=z_;clear hb hbox hg)|((with_reducible refine gate_dst (N:=3) rfl ?_);refine be_ 3 (cs:=#[.int .i64 0,.string (⟨#[]⟩:ByteArray),.bool false]) 78 ?_;intro ao hg w4 hbox hb;have z_:=bx2_ (kb_ a5) (kb_ a6) th_ hb hbox hg;clear a5 a6 HB;obtain ⟨a5,a6,HB,ai,ap,aq,a9,aa,ab,ac⟩:=z_;clear hb hbox hg;obtain ⟨ar,au,av,aw⟩:=an4_ a7 a8 a9 aa;have b0:=bb3_ a5.out;obtain ⟨ax,ay⟩:=an2_ ac ab;have b1:=bb3_ ai.out;have az:=bb3_ a6.out))
 refine bodyPost_ret (results_cell_row rfl _ _ ah 78 #[.int .i64 ae,.string af,.bool ag] (0,0) _ rfl tb_ Tryz.underlying78 rfl kr_) rfl ?_
 exact ⟨tq_1,th_⟩

def laws_toCellS.l0:Nat→List (S76)→List (S78)→Int→Option ((List (S78)))
 | 0,_,_,_=>none
 | k+1,x0,x3,x4=>if x4 < (x0.length:Int) then (if 0≤x4 then ((laws_toCell.f ((rd_T76 x0 x4).f0) ((rd_T76 x0 x4).f1) ((rd_T76 x0 x4).f2)).bind fun a5=>(if x4 < (x3.length:Int) then (laws_toCellS.l0 k x0 (x3.set (x4:Int).toNat (⟨a5.1,a5.2.1,a5.2.2⟩:S78)) (wrap64 (x4+1))) else (none))) else (none)) else (some x3)
def laws_toCellS.f (k:Nat) (l0:List (S76)):Option ((List (S78))):=if 0≤(l0.length:Int) then (if ((l0.length:Int):Int).toNat≤8796093022208 then (laws_toCellS.l0 k l0 (List.replicate ((l0.length:Int):Int).toNat z78) 0) else (none)) else (none)
theorem laws_toCellS.calls (k:Nat) (A0:Option Addr) (c0:Nat) (l0:List (S76)) (r:List (S78)) (w:World) (hr0:Kd.C k76 w A0 l0.length l0) (hc0:l0.length≤c0) (h:laws_toCellS.f k l0=some r) :
  Calls Tryz.prog 28 #[.slice A0 l0.length c0] w fun e w'=>∃ v0_:Value,e=.returned (v0_)∧Kd.R k78 78 w' w.heap.size (fun _=>True) v0_ r∧Below w.heap.size w w':=by
 have hu76:=Tryz.underlying76
 have hu78:=Tryz.underlying78
 have HR0:=m_ hr0
 have cc:=m_ hc0
 clear hr0 hc0
 have HB:=m_ (Below.refl w.heap.size w)
 unfold laws_toCellS.f at h
 have H:=h
 clear h
 obtain ⟨c2,H⟩:=fc_ H
 have bc:=eq_true c2
 have bd:=de_ c2
 clear c2
 obtain ⟨c3,H⟩:=fc_ H
 have be:=eq_true c3
 have bf:=de_ c3
 clear c3
 obtain ⟨b1,ak⟩:∃ y_:List (S78),y_=(List.replicate ((l0.length:Int):Int).toNat z78):=⟨_,rfl⟩
 replace H:(laws_toCellS.l0 k l0 b1 0)=some r:=rh_ ak H
 have an:=m_ ak
 clear ak
 have H':=m_ H
 clear H
 go_enter Tryz.func28,Tryz.ntmps28
 go_wp2_with (first|((with_reducible refine gate_dst (N:=7) rfl ?_);refine Kd.R_make k78 _ 78 rfl (N:=7) rfl 34 _ _ rfl (l0.length:Int) rfl rfl Tryz.underlying34 (.agg #[(.int .i64 0),(.string ⟨#[]⟩),(.bool false)]) 32 info78 rfl (by decide) (by omega) z78 (ok:=fun _=>True) (okp:=fun _=>True) (k78_mkM _ _ _ z78 ) (fun _ hk=>hk) trivial (od_ tq_2) (Nat.le_trans (Nat.mul_le_mul_right _ (od_ tq_2:(l0.length:Int).toNat≤8796093022208)) (by omega)) (Below.refl _ _) (Nat.le_refl _) ?_;intro v367 w4 ho5 hb hg_ hnew_;clear hg_ hnew_;(first|rw [← an.out] at ho5|(simp only [Int.reduceToNat] at ho5;rw [← an.out] at ho5));have z_:=p_ (Kd.R_lower ho5 (below_size th_)) <| a_ (below_step th_ hb);clear HB;obtain ⟨b2,HB⟩:=z_;clear hb ho5))
 go_loopg [4] k (fun kq v4 w'=>∃ (a6:List (S78)) (a5:Int),v4=.int .i64 a5∧Aside0 (laws_toCellS.l0 kq l0 a6 a5=some r)∧Aside0 (kq≤k)∧Aside0 (Kd.R k78 78 w' w.heap.size (fun _=>True) v367 a6)∧Aside0 (Below w.heap.size w w'))
 case atStart=>exact ⟨(b1),(0),tq_3,H',⟨Nat.le_refl _⟩,⟨(raR_ b2)⟩,⟨th_⟩⟩
 case round =>
 clear H'
 try clear c2;try clear bc;try clear bd;try clear p2;try clear c3;try clear be;try clear bf
 obtain ⟨a6,a5,rfl,HA,HK1,a7,HB⟩:=hrel
 cases gk with
 | zero=>exact absurd HA.out (by simp [laws_toCellS.l0])
 | succ k1 =>
 have H:=HA.out
 clear HA
 simp only [laws_toCellS.l0] at H
 by_cases c6:a5 < (l0.length:Int)
 rotate_left
 ·rw [if_neg c6] at H
  have bg:=df_ c6
  clear c6
  obtain rfl:=oi_ H
  go_wp2
  go_ret
  exact ⟨_,tq_1,(raR_ a7),th_⟩
 rw [if_pos c6] at H
 have bg:=de_ c6
 clear c6
 obtain ⟨c7,H⟩:=fc_ H
 have bv:=de_ c7
 clear c7
 obtain ⟨⟨ah,ai,aj⟩,A8,H⟩:=bd_ H
 try dsimp -simprocs only at H
 obtain ⟨c9,H⟩:=fc_ H
 have bw:=de_ c9
 clear c9
 obtain ⟨ap,al⟩:∃ y_:List (S78),y_=(a6.set (a5:Int).toNat (⟨ah,ai,aj⟩:S78)):=⟨_,rfl⟩
 replace H:(laws_toCellS.l0 k1 l0 ap (wrap64 (a5+1)))=some r:=rh_ al H
 have b3:=m_ al
 clear al
 have H':=m_ H
 clear H
 have aq:0≤(a5:Int):=od_ tq_2
 have ar:a5 < (l0.length:Int):=od_ tq_2
 obtain ⟨bu,bh,aa,ab,ac⟩:=at_T76 HR0.out a5 aq ar
 cases bh
 replace aa:=hx_ HB.out aa
 replace ab:=hx_ HB.out ab
 replace ac:=hx_ HB.out ac
 replace aq:=eq_true aq
 replace ar:=eq_true ar
 go_wp2_with (first|((with_reducible refine gate_callee (f:=53) rfl ?_);refine goesL_ (some 20) rfl rfl Tryz.func53 kr_ rfl #[.agg #[.int .i64 ((rd_T76 l0 a5).f0),.string ((rd_T76 l0 a5).f1),.bool ((rd_T76 l0 a5).f2)]] rfl tq_0 ?_;(with_reducible refine (laws_toCell.calls ((rd_T76 l0 a5).f0) ((rd_T76 l0 a5).f1) ((rd_T76 l0 a5).f2) ah ai aj _ A8.out).mono ?_);rintro e am ⟨rfl,hb⟩;refine ⟨_,rfl,?_⟩;have z_:=p_ (Kd.R_below (raR_ a7) hb) <| a_ (below_step th_ hb);clear a7 HB;obtain ⟨a7,HB⟩:=z_;(try clear hb);have bi:0≤(a5:Int):=od_ tq_2;have bj:(a5:Int) < ((a6.length:Int):Int):=od_ tq_2;obtain ⟨a8,b4,b5,b6,bl,bx,b7⟩:=Kd.R_form a7.out (by omega);(first|cases b5|(injection b5 with ea_ en_ ec_;(first|subst ea_|(injection ea_ with ea_;subst ea_));subst ec_;clear en_));have au:=m_ b6;have bz:=m_ b7;clear b6 bl b7;obtain ⟨ca,b8,b9,ae,af⟩:=Kd.R_elem a7.out z78 (a5:Int) bi bj;obtain rfl:=k78_openM b9;have bm:am.cell? ⟨a8,(a5:Int).toNat * 3,none⟩=some (.int .i64 ((rd_T78 a6 a5).f0)):=ae 0 _ rfl;have bn:am.cell? ⟨a8,(a5:Int).toNat * 3+1,none⟩=some (.string ((rd_T78 a6 a5).f1)):=ae 1 _ rfl;have bo:am.cell? ⟨a8,(a5:Int).toNat * 3+2,none⟩=some (.bool ((rd_T78 a6 a5).f2)):=ae 2 _ rfl;have bp:am.frozen? ⟨a8,(a5:Int).toNat * 3,none⟩=false:=af 0;have bq:am.frozen? ⟨a8,(a5:Int).toNat * 3+1,none⟩=false:=af 1;have br:am.frozen? ⟨a8,(a5:Int).toNat * 3+2,none⟩=false:=af 2;clear b8 ae af b9;replace bi:=eq_true bi;replace bj:=eq_true bj;have ba:=m_ (show Kd.R k78 78 am w.heap.size (fun _=>True) (.slice (some ⟨a8,0,none⟩) a6.length b4) a6 from (raR_ a7));obtain ⟨cb,ao,bb,a9,ag⟩:=Kd.R_elem ba.out z78 (a5:Int) (od_ tq_2) (by have h_:(a5:Int) < ((a6.length:Int):Int):=od_ tq_2;first|exact h_|(have e_:=(Kd.R_reads' a7.out).1;omega)|simpa using h_);obtain rfl:=k78_openM bb;have HP12:=Kd.R_seg ba.out (a5:Int) (od_ tq_2) (by have h_:(a5:Int) < ((a6.length:Int):Int):=od_ tq_2;first|exact h_|(have e_:=(Kd.R_reads' a7.out).1;omega)|simpa using h_) (seg:=[.int .i64 ah,.string ai,.bool aj]) (j:=0) ao a9 (show 3≤3 from by decide) (x':=(⟨ah,ai,aj⟩:S78)) (k78_mkM _ _ _ (⟨ah,ai,aj⟩:S78) ) (fun _ hk=>hk);have av:=a9 0 _ rfl;(try simp only [show (k78).sz=3 from rfl,Nat.mul_one,Nat.add_zero] at av);have aw:=ag 0;(try simp only [show (k78).sz=3 from rfl,Nat.mul_one,Nat.add_zero] at aw);have ax:=a9 1 _ rfl;(try simp only [show (k78).sz=3 from rfl,Nat.mul_one,Nat.add_zero] at ax);have ay:=ag 1;(try simp only [show (k78).sz=3 from rfl,Nat.mul_one,Nat.add_zero] at ay);have az:=a9 2 _ rfl;(try simp only [show (k78).sz=3 from rfl,Nat.mul_one,Nat.add_zero] at az);have b0:=ag 2;(try simp only [show (k78).sz=3 from rfl,Nat.mul_one,Nat.add_zero] at b0);clear ao a9 ag bb)|((with_reducible refine gate_store (t:=78) (p:=21) rfl ?_);refine store_event (t:=78) (p:=21) (v:=?vo_w13) (w1:=(((am.setCell ⟨a8,(a5:Int).toNat * 3,none⟩ (.int .i64 ah)).setCell ⟨a8,(a5:Int).toNat * 3+1,none⟩ (.string ai)).setCell ⟨a8,(a5:Int).toNat * 3+2,none⟩ (.bool aj))) ?hg ?ho ?hn ?hr ?_;(case ho=>rfl);(case hg=>rfl);(case hn=>rfl);(case hr=>first|(go_simp;done)|(go_simp;rfl));intro bs hw;have hg:am.grownBy bs (some a8):=(by rw [hw];exact HP12.2);have hp_:Kd.R k78 78 bs w.heap.size (fun _=>True) (.slice (some ⟨a8,0,none⟩) a6.length b4) ap:=(by rw [hw,b3.out];exact HP12.1);clear HP12;have z_:=p_ (hp_) <| a_ ((by rw [hw];exact below_set (below_set (below_set (HB.out) au.out) au.out) au.out:Below w.heap.size w bs));clear a7 HB;obtain ⟨a7,HB⟩:=z_;clear hg hw hp_))
 go_roundg k1
 case measure=>have:=HK1.out;omega
 case rel=>exact ⟨(ap),(wrap64 (a5+1)),tq_3,H',⟨tq_14⟩,⟨(raR_ a7)⟩,⟨th_⟩⟩

def laws_toMemory.f (k:Nat) (a5:ByteArray) (a6:List (S76)):Option (ByteArray × (List (S78))):=(laws_toCellS.f k a6).bind fun a7=>(some (a5,a7))
theorem laws_toMemory.calls (k:Nat) (ab:ByteArray) (ah:Option Addr) (ai:Nat) (aa:List (S76)) (r1:ByteArray) (r2:List (S78)) (w:World) (aj:Kd.C k76 w ah aa.length aa) (ak:aa.length≤ai) (h:laws_toMemory.f k ab aa=some (r1,r2)) :
  Calls Tryz.prog 6 #[.agg #[.string ab,.slice ah aa.length ai]] w fun e w'=>∃ v1_:Value,e=.returned (.agg #[.string r1,v1_])∧Kd.R k78 78 w' w.heap.size (fun _=>True) v1_ r2∧Below w.heap.size w w':=by
 have hu24:=Tryz.underlying24
 have hu36:=Tryz.underlying36
 have HR0_1:=m_ aj
 have an:=m_ ak
 clear aj ak
 have HB:=m_ (Below.refl w.heap.size w)
 unfold laws_toMemory.f at h
 have H:=h
 clear h
 obtain ⟨ao,A2,H⟩:=bd_ H
 simp only [Option.some.injEq,Prod.mk.injEq] at H
 obtain ⟨rfl,rfl⟩:=H
 go_enter Tryz.func6,Tryz.ntmps6
 go_wp2_with (first|((with_reducible refine gate_dst (N:=1) rfl ?_);refine be_ 1 (cs:=#[.string ab,.slice ah aa.length ai]) 24 ?_;intro ap hg w3 hbox hb;have z_:=bx0_ th_ hb hbox hg;clear HB;obtain ⟨HB,a5,b0,b1⟩:=z_;clear hb hbox hg)|((with_reducible refine gate_dst (N:=2) rfl ?_);refine be_ 2 (cs:=#[.string (⟨#[]⟩:ByteArray),.slice none 0 0]) 36 ?_;intro al hg w4 hbox hb;have z_:=bx1_ (kb_ a5) th_ hb hbox hg;clear a5 HB;obtain ⟨a5,HB,a6,b2,b3,ac,ae⟩:=z_;clear hb hbox hg)|((with_reducible refine gate_dst (N:=3) rfl ?_);refine be_ 3 (cs:=#[.string (⟨#[]⟩:ByteArray),.slice none 0 0]) 36 ?_;intro aq hg w5 hbox hb;have z_:=bx2_ (kb_ a5) (kb_ a6) th_ hb hbox hg;clear a5 a6 HB;obtain ⟨a5,a6,HB,a7,b4,b5,a8,af,a9,ag⟩:=z_;clear hb hbox hg;obtain ⟨b6,b7,ar,au⟩:=an4_ ac ae a8 af;have bb:=bb2_ a5.out;obtain ⟨av,aw⟩:=an2_ ag a9;have b8:=bb2_ a7.out)|((with_reducible refine gate_callee (f:=28) rfl ?_);refine goesL_ (some 9) rfl rfl Tryz.func28 kr_ rfl #[.slice ah aa.length ai] rfl tq_0 ?_;(with_reducible refine (laws_toCellS.calls k _ _ aa ao _ ?side1 ?side2 A2.out).mono ?_);(case side1=>exact Kd.C_below HR0_1.out th_);(case side2=>exact an.out);rintro e bc ⟨v378,rfl,ho0,hb⟩;refine ⟨_,rfl,?_⟩;have z_:=p_ (Kd.R_lower ho0 (below_size th_)) <| p_ (blk_below (g:=ap) (o:=.cells #[.string ab,.slice ah aa.length ai] 24 (0,0)) (fr_ a5.out a8.out) hb) <| p_ (blk_below (g:=al) (o:=.cells #[.string (⟨#[]⟩:ByteArray),.slice none 0 0] 36 (0,0)) (fr_ a6.out a9.out) hb) <| p_ (blk_below (g:=aq) (o:=.cells #[.string ab,.slice none 0 0] 36 (0,0)) (pt_ a7.out) hb) <| a_ (below_step th_ hb);clear a5 a6 a7 HB;obtain ⟨am,a5,a6,a7,HB⟩:=z_;(try clear hb);(try clear ho0);obtain ⟨ax,ay,az⟩:=Kd.R_slice am.out;subst az;have b9:=bb2_ a7.out;have ba:=bb2_ a6.out))
 refine bodyPost_ret (results_cell_row rfl _ _ al 36 #[.string ab,.slice ax ao.length ay] (0,0) _ rfl tb_ Tryz.underlying36 rfl kr_) rfl ?_
 exact ⟨_,tq_1,(by (with_reducible repeat (first|apply Kd.R_alloc|apply Kd.R_drewN|apply Kd.R_drew));exact Kd.R_mono (rR_ (rR_ (rR_ (Kd.R_types (Kd.R_types am.out a7.out (by decide)) a6.out (by decide)) (fun _ hk=>hk.1.2)))) (fun _ hk=>trivial)),th_⟩

def laws_toGeo.f (a5:Int) (a6:Int) (a7:Int) (a8:Int):Option (Int × Int × Int × Int):=some (a5,a6,a7,a8)
theorem laws_toGeo.calls (ae:Int) (af:Int) (ag:Int) (ah:Int) (r1:Int) (r2:Int) (r3:Int) (r4:Int) (w:World) (h:laws_toGeo.f ae af ag ah=some (r1,r2,r3,r4)) :
  Calls Tryz.prog 7 #[.agg #[.int .i64 ae,.int .i64 af,.int .i64 ag,.int .i64 ah]] w fun e w'=>e=.returned (.agg #[.int .i64 r1,.int .i64 r2,.int .i64 r3,.int .i64 r4])∧Below w.heap.size w w':=by
 have hu26:=Tryz.underlying26
 have hu38:=Tryz.underlying38
 have HB:=m_ (Below.refl w.heap.size w)
 unfold laws_toGeo.f at h
 have H:=h
 clear h
 simp only [Option.some.injEq,Prod.mk.injEq] at H
 obtain ⟨rfl,rfl,rfl,rfl⟩:=H
 go_enter Tryz.func7,Tryz.ntmps7
 go_wp2_with (first|((with_reducible refine gate_dst (N:=1) rfl ?_);refine be_ 1 (cs:=#[.int .i64 ae,.int .i64 af,.int .i64 ag,.int .i64 ah]) 26 ?_;intro ak hg w2 hbox hb;have z_:=bx0_ th_ hb hbox hg;clear HB;obtain ⟨HB,a5,al,am⟩:=z_;clear hb hbox hg)|((with_reducible refine gate_dst (N:=2) rfl ?_);refine be_ 2 (cs:=#[.int .i64 0,.int .i64 0,.int .i64 0,.int .i64 0]) 38 ?_;intro ai hg w3 hbox hb;have z_:=bx1_ (kb_ a5) th_ hb hbox hg;clear a5 HB;obtain ⟨a5,HB,a6,an,ao,a7,a8⟩:=z_;clear hb hbox hg)|((with_reducible refine gate_dst (N:=3) rfl ?_);refine be_ 3 (cs:=#[.int .i64 0,.int .i64 0,.int .i64 0,.int .i64 0]) 38 ?_;intro ap hg w4 hbox hb;have z_:=bx2_ (kb_ a5) (kb_ a6) th_ hb hbox hg;clear a5 a6 HB;obtain ⟨a5,a6,HB,aj,aq,ar,a9,aa,ab,ac⟩:=z_;clear hb hbox hg;obtain ⟨au,av,aw,ax⟩:=an4_ a7 a8 a9 aa;have b1:=bb4_ a5.out;obtain ⟨ay,az⟩:=an2_ ac ab;have b2:=bb4_ aj.out;have b0:=bb4_ a6.out))
 refine bodyPost_ret (results_cell_row rfl _ _ ai 38 #[.int .i64 ae,.int .i64 af,.int .i64 ag,.int .i64 ah] (0,0) _ rfl tb_ Tryz.underlying38 rfl kr_) rfl ?_
 exact ⟨tq_1,th_⟩

def impl_within.f (a0:Int) (a1:Int) (a2:Int):Option (Bool):=if a0 ≥ a1 then (some (decide (a0≤a2))) else (some false)
theorem impl_within.calls (a0:Int) (a1:Int) (a2:Int) (r:Bool) (w:World) (h:impl_within.f a0 a1 a2=some r) :
  Calls Tryz.prog 57 #[.int .i64 a0,.int .i64 a1,.int .i64 a2] w fun e w'=>e=.returned (.bool r)∧Drawn0 w w':=by
 unfold impl_within.f at h
 have H:=h
 clear h
 by_cases c4:a0 ≥ a1
 ·rw [if_pos c4] at H
  have a5:=de_ c4
  clear c4
  obtain rfl:=oi_ H
  go_enter Tryz.func57,Tryz.ntmps57
  go_wp2
  go_ret
  exact ⟨tq_3,tq_8⟩
 rw [if_neg c4] at H
 have a5:=df_ c4
 clear c4
 obtain rfl:=oi_ H
 go_enter Tryz.func57,Tryz.ntmps57
 go_wp2
 go_ret
 exact ⟨tq_3,tq_8⟩

def impl_MemoryOk.l0:Nat→List (S78)→Int→Int→ByteArray→List (S78)→Option (Bool)
 | 0,_,_,_,_,_=>none
 | k+1,x6,x7,x8,a5,a6=>if x8 < x7 then (if 0≤x8 then (if x8 < (x6.length:Int) then ((impl_within.f ((rd_T78 x6 x8).f0) 0 (wrap64 ((wrap64 ((a5.size:Int) / 16)) - 1))).bind fun a7=>(if a7=true then (if (((rd_T78 x6 x8).f1).size:Int)=16 then (if x8 > 0 then (if 0≤(wrap64 (x8 - 1)) then (if (wrap64 (x8 - 1)) < (a6.length:Int) then (if ((rd_T78 x6 x8).f0)≤((rd_T78 a6 (wrap64 (x8 - 1))).f0) then (some false) else (impl_MemoryOk.l0 k x6 x7 (wrap64 (x8+1)) a5 a6)) else (none)) else (none)) else (impl_MemoryOk.l0 k x6 x7 (wrap64 (x8+1)) a5 a6)) else (some false)) else (some false))) else (none)) else (none)) else (if ((a5.size:Int) % 16)=0 then (some (decide ((a5.size:Int)≤16000))) else (some false))
def impl_MemoryOk.f (k:Nat) (a6:ByteArray) (a5:List (S78)):Option (Bool):=impl_MemoryOk.l0 k a5 (a5.length:Int) 0 a6 a5
def impl_MemoryOk.T4:Bool × List (List Nat × List Nat):=(true,[([],[]),([0],[0]),([],[]),([2],[2]),([3],[3]),([4],[4]),([5],[5]),([1,6],[1,6]),([7],[7]),([8,7],[8]),([9],[9]),([10,9],[9,10]),([11,9],[9,11]),([12,9],[9,12]),([9,13],[9,13]),([14,9],[14]),([15],[15]),([16,15],[15,16]),([17,15,15],[15,17]),([18],[18]),([19,18],[18,19]),([18],[18]),([21,18],[18,21]),([18],[18]),([23,18],[18,23]),([22,24,18],[18,22,24]),([25,18],[18,25]),([26,18],[18,26]),([20,27,18],[18,20,27]),([18,28,15],[15,18,28]),([15,29],[15,29])])
def impl_MemoryOk.B4:List Nat:=[0,1,0,4,12,28,60,127,255,511,1023,2047,4095,8191,16383,32767,65535,131071,262143,524287,1048575,524287,2621439,524287,8912895,31981567,65535999,132644863,268435455,536870911,1073741823]
theorem impl_MemoryOk.tab4:rtab .any (opsOf Tryz.f54 4)=impl_MemoryOk.T4:=by kernel_rfl
theorem impl_MemoryOk.bits4:waitsOk impl_MemoryOk.T4.2 impl_MemoryOk.B4=true:=by kernel_rfl
theorem impl_MemoryOk.calls (k:Nat) (ac:ByteArray) (b1:Option Addr) (ap:Nat) (a5:List (S78)) (r:Bool) (w:World) (b2:Kd.C k78 w b1 a5.length a5) (b3:a5.length≤ap) (h:impl_MemoryOk.f k ac a5=some r) :
  Calls Tryz.prog 54 #[.agg #[.string ac,.slice b1 a5.length ap]] w fun e w'=>e=.returned (.bool r)∧Below w.heap.size w w':=by
 have hu36:=Tryz.underlying36
 have hu78:=Tryz.underlying78
 have HR0_1:=m_ b2
 have bo:=m_ b3
 clear b2 b3
 have HB:=m_ (Below.refl w.heap.size w)
 unfold impl_MemoryOk.f at h
 have H:=h
 clear h
 have H':=m_ H
 clear H
 go_enter Tryz.func54,Tryz.ntmps54
 go_wp2_with (first|((with_reducible refine gate_dst (N:=1) rfl ?_);(try (refine gate_guard (by rfl) ?_;dsimp only));refine be_ 1 (cs:=#[.string ac,.slice b1 a5.length ap]) 36 ?_;intro ah hg w2 hbox hb;have z_:=bx0_ th_ hb hbox hg;clear HB;obtain ⟨HB,a7,bp,bq⟩:=z_;clear hb hbox hg;have bh:=bb2_ a7.out))
 go_loopg [8] k (fun kq v8 w'=>∃ (x8_1:Int),v8=.int .i64 x8_1∧Aside0 (impl_MemoryOk.l0 kq a5 (a5.length:Int) x8_1 ac a5=some r)∧Aside0 (kq≤k)∧Aside0 (w'.heap[ah]?=some (.cells #[.string ac,(.slice b1 a5.length ap)] 36 (0,0)))∧Aside0 (Below w.heap.size w w'))
 case atStart=>exact ⟨(0),tq_3,H',⟨Nat.le_refl _⟩,⟨(kb_ a7)⟩,⟨th_⟩⟩
 case round =>
 clear H'
 try clear p2;try clear bh
 obtain ⟨x8_1,rfl,HA,HK1,a7,HB⟩:=hrel
 cases gk with
 | zero=>exact absurd HA.out (by simp [impl_MemoryOk.l0])
 | succ k1 =>
 have H:=HA.out
 clear HA
 simp only [impl_MemoryOk.l0] at H
 by_cases c4:x8_1 < (a5.length:Int)
 rotate_left
 ·rw [if_neg c4] at H
  have bi:=df_ c4
  clear c4
  by_cases b4:((ac.size:Int) % 16)=0
  rotate_left
  ·rw [if_neg b4] at H
   have ax:=qc_ b4
   have c36b0t:((Int.tmod (ac.size:Int) 16) == 0)=false:=by rw [Int.tmod_eq_emod_of_nonneg (by omega)];exact ax
   have ay:=qd_ b4
   have c36b1t:((Int.tmod (ac.size:Int) 16) != 0)=true:=by rw [Int.tmod_eq_emod_of_nonneg (by omega)];exact ay
   obtain rfl:=oi_ H
   have bw:=bb2_ a7.out
   go_wp2
   go_ret
   exact ⟨tq_1,th_⟩
  rw [if_pos b4] at H
  have ax:=qa_ b4
  have c36b0t:((Int.tmod (ac.size:Int) 16) == 0)=true:=by rw [Int.tmod_eq_emod_of_nonneg (by omega)];exact ax
  have ay:=qb_ b4
  have c36b1t:((Int.tmod (ac.size:Int) 16) != 0)=false:=by rw [Int.tmod_eq_emod_of_nonneg (by omega)];exact ay
  clear b4
  obtain rfl:=oi_ H
  have bx:=bb2_ a7.out
  go_wp2
  go_ret
  exact ⟨tq_1,th_⟩
 rw [if_pos c4] at H
 have bi:=de_ c4
 clear c4
 obtain ⟨c5,H⟩:=fc_ H
 have bz:=de_ c5
 clear c5
 obtain ⟨c6,H⟩:=fc_ H
 have ca:=de_ c6
 clear c6
 obtain ⟨bj,A7,H⟩:=bd_ H
 by_cases c8:bj=true
 rotate_left
 ·replace c8:=Bool.eq_false_iff.mpr c8
  subst c8
  rw [if_neg nf_] at H
  obtain rfl:=oi_ H
  have ai:0≤(x8_1:Int):=od_ tq_2
  have aj:x8_1 < (a5.length:Int):=od_ tq_2
  obtain ⟨ag,aw,a9,aa,ab⟩:=at_T78 HR0_1.out x8_1 ai aj
  cases aw
  replace a9:=hx_ HB.out a9
  replace aa:=hx_ HB.out aa
  replace ab:=hx_ HB.out ab
  replace ai:=eq_true ai
  replace aj:=eq_true aj
  try go_wp2_with (first|((with_reducible refine gate_dst (N:=4) rfl ?_);(try (refine gate_guard (by rfl) ?_;dsimp only));refine be_ 4 (cs:=#[.int .i64 0,.string (⟨#[]⟩:ByteArray),.bool false]) 78 ?_;intro a6 hg bd hbox hb;have z_:=bx1_ (kb_ a7) th_ hb hbox hg;clear a7 HB;obtain ⟨a7,HB,a8,az,b0,ae,af⟩:=z_;clear hb hbox hg;obtain ⟨ak,al⟩:=an2_ af ae;have cb:=bb3_ a8.out))
  have n0_:Aside0 ((((bd.setCell ⟨a6,0,none⟩ (.int .i64 ((rd_T78 a5 x8_1).f0))).setCell ⟨a6,1,none⟩ (.string ((rd_T78 a5 x8_1).f1))).setCell ⟨a6,2,none⟩ (.bool ((rd_T78 a5 x8_1).f2))).heap[ah]?=some (.cells #[.string ac,.slice (some ag) a5.length ap] 36 (0,0))):=⟨tb_⟩
  have n1_:Aside0 ((((bd.setCell ⟨a6,0,none⟩ (.int .i64 ((rd_T78 a5 x8_1).f0))).setCell ⟨a6,1,none⟩ (.string ((rd_T78 a5 x8_1).f1))).setCell ⟨a6,2,none⟩ (.bool ((rd_T78 a5 x8_1).f2))).heap[a6]?=some (.cells #[.int .i64 ((rd_T78 a5 x8_1).f0),.string ((rd_T78 a5 x8_1).f1),.bool ((rd_T78 a5 x8_1).f2)] 78 (0,0))):=⟨tb_⟩
  have n2_:Aside0 (Below w.heap.size w (((bd.setCell ⟨a6,0,none⟩ (.int .i64 ((rd_T78 a5 x8_1).f0))).setCell ⟨a6,1,none⟩ (.string ((rd_T78 a5 x8_1).f1))).setCell ⟨a6,2,none⟩ (.bool ((rd_T78 a5 x8_1).f2)))):=⟨th_⟩
  (try clear a7)
  (try clear a8)
  (try clear HB)
  generalize (((bd.setCell ⟨a6,0,none⟩ (.int .i64 ((rd_T78 a5 x8_1).f0))).setCell ⟨a6,1,none⟩ (.string ((rd_T78 a5 x8_1).f1))).setCell ⟨a6,2,none⟩ (.bool ((rd_T78 a5 x8_1).f2)))=cc at n0_ n1_ n2_ ⊢
  have a7:=n0_
  have a8:=n1_
  have HB:=n2_
  clear n0_ n1_ n2_
  have z_:=dw2_ a7 a8 HB
  clear a7 a8 HB
  obtain ⟨a7,a8,HB⟩:=z_
  refine start_ (n:=31) (S:=fun w'=>w'.cell? ⟨a6,0,none⟩=some (.int .i64 ((rd_T78 a5 x8_1).f0))∧w'.cell? ⟨a6,1,none⟩=some (.string ((rd_T78 a5 x8_1).f1))∧w'.cell? ⟨a6,2,none⟩=some (.bool ((rd_T78 a5 x8_1).f2))∧w'.cell? ⟨ah,0,none⟩=some (.string ac)∧w'.cell? ⟨ah,1,none⟩=some (.slice (some ag) a5.length ap)) (ds:=[]) bq_103 kr_ rfl rfl (bc3_ a8.out (bk2_ a7.out)) (fun hHeld=>?_);refine with_tabW impl_MemoryOk.tab4 impl_MemoryOk.bits4 (fun HT_ HW_=>?_)
  generalize cc.drew=ci at a7 a8 HB hHeld ⊢
  refine yr_ 0 13 bq_104 HT_ ?_
  refine yr_ 2 15 bq_105 HT_ ?_
  refine tr_ 1 14 bq_106 HT_ HW_ hHeld ?_
  refine tr_ 3 16 bq_107 HT_ HW_ hHeld ?_
  refine yr_ 4 17 bq_108 HT_ ?_
  refine yr_ 5 18 bq_109 HT_ ?_
  refine yr_ 6 19 bq_110 HT_ ?_
  refine one_ (i:=7) (N:=some 20) bq_111 rfl rfl (one_of HT_.out kr_) (by decide) (fun K hK=>?_)
  refine goes_ Tryz.func57 kr_ rfl #[.int .i64 ((rd_T78 a5 x8_1).f0),.int .i64 0,.int .i64 (wrap64 ((wrap64 ((ac.size:Int) / 16)) - 1))] (by rfl) rfl rfl tq_0 ?_
  with_reducible refine (impl_within.calls ((rd_T78 a5 x8_1).f0) 0 (wrap64 ((wrap64 ((ac.size:Int) / 16)) - 1)) false _ A7.out).mono ?_
  rintro e w' ⟨rfl,⟨nd,rfl⟩⟩
  refine ⟨_,rfl,?_⟩
  refine hK.out _ _ (bc3_ a8.out (bk2_ a7.out)) (fun hHeld=>?_)
  clear hK K
  refine nm_ (some 20) ?_
  refine yr_ 8 21 bq_112 HT_ ?_
  refine yr_ 9 22 bq_113 HT_ ?_
  refine ur_ 10 23 bq_114 HT_ ?_
  refine ur_ 11 24 bq_115 HT_ ?_
  refine ur_ 12 25 bq_116 HT_ ?_
  refine ur_ 13 26 bq_117 HT_ ?_
  refine yr_ 14 27 bq_118 HT_ ?_
  refine yr_ 15 28 bq_119 HT_ ?_
  refine ur_ 16 29 bq_120 HT_ ?_
  refine ur_ 17 30 bq_121 HT_ ?_
  refine ur_ 18 31 bq_122 HT_ ?_
  refine ur_ 19 32 bq_123 HT_ ?_
  refine ur_ 20 33 bq_179 HT_ ?_
  refine ur_ 21 34 bq_180 HT_ ?_
  refine ur_ 22 35 bq_181 HT_ ?_
  refine ur_ 23 36 bq_182 HT_ ?_
  refine ur_ 24 37 bq_124 HT_ ?_
  refine ur_ 25 38 bq_125 HT_ ?_
  refine ur_ 26 39 bq_126 HT_ ?_
  refine ur_ 27 40 bq_127 HT_ ?_
  refine ur_ 28 41 bq_128 HT_ ?_
  refine ur_ 29 42 bq_129 HT_ ?_
  refine yr_ 30 43 bq_130 HT_ ?_
  refine done_ (done_of HT_.out kr_) ?_
  try go_wp2
  go_ret
  exact ⟨tq_1,th_⟩
 subst c8
 rw [if_pos rfl] at H
 by_cases c9:(((rd_T78 a5 x8_1).f1).size:Int)=16
 rotate_left
 ·rw [if_neg c9] at H
  have bl:=qc_ c9
  have bm:=qd_ c9
  obtain rfl:=oi_ H
  have ai:0≤(x8_1:Int):=od_ tq_2
  have aj:x8_1 < (a5.length:Int):=od_ tq_2
  obtain ⟨ag,aw,a9,aa,ab⟩:=at_T78 HR0_1.out x8_1 ai aj
  cases aw
  replace a9:=hx_ HB.out a9
  replace aa:=hx_ HB.out aa
  replace ab:=hx_ HB.out ab
  replace ai:=eq_true ai
  replace aj:=eq_true aj
  try go_wp2_with (first|((with_reducible refine gate_dst (N:=4) rfl ?_);(try (refine gate_guard (by rfl) ?_;dsimp only));refine be_ 4 (cs:=#[.int .i64 0,.string (⟨#[]⟩:ByteArray),.bool false]) 78 ?_;intro a6 hg be hbox hb;have z_:=bx1_ (kb_ a7) th_ hb hbox hg;clear a7 HB;obtain ⟨a7,HB,a8,az,b0,ae,af⟩:=z_;clear hb hbox hg;obtain ⟨ak,al⟩:=an2_ af ae;have cd:=bb3_ a8.out))
  have n0_:Aside0 ((((be.setCell ⟨a6,0,none⟩ (.int .i64 ((rd_T78 a5 x8_1).f0))).setCell ⟨a6,1,none⟩ (.string ((rd_T78 a5 x8_1).f1))).setCell ⟨a6,2,none⟩ (.bool ((rd_T78 a5 x8_1).f2))).heap[ah]?=some (.cells #[.string ac,.slice (some ag) a5.length ap] 36 (0,0))):=⟨tb_⟩
  have n1_:Aside0 ((((be.setCell ⟨a6,0,none⟩ (.int .i64 ((rd_T78 a5 x8_1).f0))).setCell ⟨a6,1,none⟩ (.string ((rd_T78 a5 x8_1).f1))).setCell ⟨a6,2,none⟩ (.bool ((rd_T78 a5 x8_1).f2))).heap[a6]?=some (.cells #[.int .i64 ((rd_T78 a5 x8_1).f0),.string ((rd_T78 a5 x8_1).f1),.bool ((rd_T78 a5 x8_1).f2)] 78 (0,0))):=⟨tb_⟩
  have n2_:Aside0 (Below w.heap.size w (((be.setCell ⟨a6,0,none⟩ (.int .i64 ((rd_T78 a5 x8_1).f0))).setCell ⟨a6,1,none⟩ (.string ((rd_T78 a5 x8_1).f1))).setCell ⟨a6,2,none⟩ (.bool ((rd_T78 a5 x8_1).f2)))):=⟨th_⟩
  (try clear a7)
  (try clear a8)
  (try clear HB)
  generalize (((be.setCell ⟨a6,0,none⟩ (.int .i64 ((rd_T78 a5 x8_1).f0))).setCell ⟨a6,1,none⟩ (.string ((rd_T78 a5 x8_1).f1))).setCell ⟨a6,2,none⟩ (.bool ((rd_T78 a5 x8_1).f2)))=ce at n0_ n1_ n2_ ⊢
  have a7:=n0_
  have a8:=n1_
  have HB:=n2_
  clear n0_ n1_ n2_
  have z_:=dw2_ a7 a8 HB
  clear a7 a8 HB
  obtain ⟨a7,a8,HB⟩:=z_
  refine start_ (n:=31) (S:=fun w'=>w'.cell? ⟨a6,0,none⟩=some (.int .i64 ((rd_T78 a5 x8_1).f0))∧w'.cell? ⟨a6,1,none⟩=some (.string ((rd_T78 a5 x8_1).f1))∧w'.cell? ⟨a6,2,none⟩=some (.bool ((rd_T78 a5 x8_1).f2))∧w'.cell? ⟨ah,0,none⟩=some (.string ac)∧w'.cell? ⟨ah,1,none⟩=some (.slice (some ag) a5.length ap)) (ds:=[]) bq_103 kr_ rfl rfl (bc3_ a8.out (bk2_ a7.out)) (fun hHeld=>?_);refine with_tabW impl_MemoryOk.tab4 impl_MemoryOk.bits4 (fun HT_ HW_=>?_)
  generalize ce.drew=cj at a7 a8 HB hHeld ⊢
  refine yr_ 0 13 bq_104 HT_ ?_
  refine yr_ 2 15 bq_105 HT_ ?_
  refine tr_ 1 14 bq_106 HT_ HW_ hHeld ?_
  refine tr_ 3 16 bq_107 HT_ HW_ hHeld ?_
  refine yr_ 4 17 bq_108 HT_ ?_
  refine yr_ 5 18 bq_109 HT_ ?_
  refine yr_ 6 19 bq_110 HT_ ?_
  refine one_ (i:=7) (N:=some 20) bq_111 rfl rfl (one_of HT_.out kr_) (by decide) (fun K hK=>?_)
  refine goes_ Tryz.func57 kr_ rfl #[.int .i64 ((rd_T78 a5 x8_1).f0),.int .i64 0,.int .i64 (wrap64 ((wrap64 ((ac.size:Int) / 16)) - 1))] (by rfl) rfl rfl tq_0 ?_
  with_reducible refine (impl_within.calls ((rd_T78 a5 x8_1).f0) 0 (wrap64 ((wrap64 ((ac.size:Int) / 16)) - 1)) true _ A7.out).mono ?_
  rintro e w' ⟨rfl,⟨nd,rfl⟩⟩
  refine ⟨_,rfl,?_⟩
  refine hK.out _ _ (bc3_ a8.out (bk2_ a7.out)) (fun hHeld=>?_)
  clear hK K
  refine nm_ (some 20) ?_
  refine yr_ 8 21 bq_112 HT_ ?_
  refine yr_ 9 22 bq_113 HT_ ?_
  refine yr_ 10 23 bq_114 HT_ ?_
  refine tr_ 11 24 bq_115 HT_ HW_ hHeld ?_
  refine yr_ 12 25 bq_116 HT_ ?_
  refine yr_ 13 26 bq_117 HT_ ?_
  refine yr_ 14 27 bq_118 HT_ ?_
  refine yr_ 15 28 bq_119 HT_ ?_
  refine ur_ 16 29 bq_120 HT_ ?_
  refine ur_ 17 30 bq_121 HT_ ?_
  refine ur_ 18 31 bq_122 HT_ ?_
  refine ur_ 19 32 bq_123 HT_ ?_
  refine ur_ 20 33 bq_179 HT_ ?_
  refine ur_ 21 34 bq_180 HT_ ?_
  refine ur_ 22 35 bq_181 HT_ ?_
  refine ur_ 23 36 bq_182 HT_ ?_
  refine ur_ 24 37 bq_124 HT_ ?_
  refine ur_ 25 38 bq_125 HT_ ?_
  refine ur_ 26 39 bq_126 HT_ ?_
  refine ur_ 27 40 bq_127 HT_ ?_
  refine ur_ 28 41 bq_128 HT_ ?_
  refine ur_ 29 42 bq_129 HT_ ?_
  refine yr_ 30 43 bq_130 HT_ ?_
  refine done_ (done_of HT_.out kr_) ?_
  try go_wp2
  go_ret
  exact ⟨tq_1,th_⟩
 rw [if_pos c9] at H
 have bl:=qa_ c9
 have bm:=qb_ c9
 clear c9
 by_cases b7:x8_1 > 0
 rotate_left
 ·rw [if_neg b7] at H
  have b9:=df_ b7
  clear b7
  have H':=m_ H
  clear H
  have ai:0≤(x8_1:Int):=od_ tq_2
  have aj:x8_1 < (a5.length:Int):=od_ tq_2
  obtain ⟨ag,aw,a9,aa,ab⟩:=at_T78 HR0_1.out x8_1 ai aj
  cases aw
  replace a9:=hx_ HB.out a9
  replace aa:=hx_ HB.out aa
  replace ab:=hx_ HB.out ab
  replace ai:=eq_true ai
  replace aj:=eq_true aj
  try go_wp2_with (first|((with_reducible refine gate_dst (N:=4) rfl ?_);(try (refine gate_guard (by rfl) ?_;dsimp only));refine be_ 4 (cs:=#[.int .i64 0,.string (⟨#[]⟩:ByteArray),.bool false]) 78 ?_;intro a6 hg bf hbox hb;have z_:=bx1_ (kb_ a7) th_ hb hbox hg;clear a7 HB;obtain ⟨a7,HB,a8,az,b0,ae,af⟩:=z_;clear hb hbox hg;obtain ⟨ak,al⟩:=an2_ af ae;have cf:=bb3_ a8.out))
  have n0_:Aside0 ((((bf.setCell ⟨a6,0,none⟩ (.int .i64 ((rd_T78 a5 x8_1).f0))).setCell ⟨a6,1,none⟩ (.string ((rd_T78 a5 x8_1).f1))).setCell ⟨a6,2,none⟩ (.bool ((rd_T78 a5 x8_1).f2))).heap[ah]?=some (.cells #[.string ac,.slice (some ag) a5.length ap] 36 (0,0))):=⟨tb_⟩
  have n1_:Aside0 ((((bf.setCell ⟨a6,0,none⟩ (.int .i64 ((rd_T78 a5 x8_1).f0))).setCell ⟨a6,1,none⟩ (.string ((rd_T78 a5 x8_1).f1))).setCell ⟨a6,2,none⟩ (.bool ((rd_T78 a5 x8_1).f2))).heap[a6]?=some (.cells #[.int .i64 ((rd_T78 a5 x8_1).f0),.string ((rd_T78 a5 x8_1).f1),.bool ((rd_T78 a5 x8_1).f2)] 78 (0,0))):=⟨tb_⟩
  have n2_:Aside0 (Below w.heap.size w (((bf.setCell ⟨a6,0,none⟩ (.int .i64 ((rd_T78 a5 x8_1).f0))).setCell ⟨a6,1,none⟩ (.string ((rd_T78 a5 x8_1).f1))).setCell ⟨a6,2,none⟩ (.bool ((rd_T78 a5 x8_1).f2)))):=⟨th_⟩
  (try clear a7)
  (try clear a8)
  (try clear HB)
  generalize (((bf.setCell ⟨a6,0,none⟩ (.int .i64 ((rd_T78 a5 x8_1).f0))).setCell ⟨a6,1,none⟩ (.string ((rd_T78 a5 x8_1).f1))).setCell ⟨a6,2,none⟩ (.bool ((rd_T78 a5 x8_1).f2)))=cg at n0_ n1_ n2_ ⊢
  have a7:=n0_
  have a8:=n1_
  have HB:=n2_
  clear n0_ n1_ n2_
  have z_:=dw2_ a7 a8 HB
  clear a7 a8 HB
  obtain ⟨a7,a8,HB⟩:=z_
  refine start_ (n:=31) (S:=fun w'=>w'.cell? ⟨a6,0,none⟩=some (.int .i64 ((rd_T78 a5 x8_1).f0))∧w'.cell? ⟨a6,1,none⟩=some (.string ((rd_T78 a5 x8_1).f1))∧w'.cell? ⟨a6,2,none⟩=some (.bool ((rd_T78 a5 x8_1).f2))∧w'.cell? ⟨ah,0,none⟩=some (.string ac)∧w'.cell? ⟨ah,1,none⟩=some (.slice (some ag) a5.length ap)) (ds:=[]) bq_103 kr_ rfl rfl (bc3_ a8.out (bk2_ a7.out)) (fun hHeld=>?_);refine with_tabW impl_MemoryOk.tab4 impl_MemoryOk.bits4 (fun HT_ HW_=>?_)
  generalize cg.drew=ck at a7 a8 HB hHeld ⊢
  refine yr_ 0 13 bq_104 HT_ ?_
  refine yr_ 2 15 bq_105 HT_ ?_
  refine tr_ 1 14 bq_106 HT_ HW_ hHeld ?_
  refine tr_ 3 16 bq_107 HT_ HW_ hHeld ?_
  refine yr_ 4 17 bq_108 HT_ ?_
  refine yr_ 5 18 bq_109 HT_ ?_
  refine yr_ 6 19 bq_110 HT_ ?_
  refine one_ (i:=7) (N:=some 20) bq_111 rfl rfl (one_of HT_.out kr_) (by decide) (fun K hK=>?_)
  refine goes_ Tryz.func57 kr_ rfl #[.int .i64 ((rd_T78 a5 x8_1).f0),.int .i64 0,.int .i64 (wrap64 ((wrap64 ((ac.size:Int) / 16)) - 1))] (by rfl) rfl rfl tq_0 ?_
  with_reducible refine (impl_within.calls ((rd_T78 a5 x8_1).f0) 0 (wrap64 ((wrap64 ((ac.size:Int) / 16)) - 1)) true _ A7.out).mono ?_
  rintro e w' ⟨rfl,⟨nd,rfl⟩⟩
  refine ⟨_,rfl,?_⟩
  refine hK.out _ _ (bc3_ a8.out (bk2_ a7.out)) (fun hHeld=>?_)
  clear hK K
  refine nm_ (some 20) ?_
  refine yr_ 8 21 bq_112 HT_ ?_
  refine yr_ 9 22 bq_113 HT_ ?_
  refine yr_ 10 23 bq_114 HT_ ?_
  refine tr_ 11 24 bq_115 HT_ HW_ hHeld ?_
  refine yr_ 12 25 bq_116 HT_ ?_
  refine yr_ 13 26 bq_117 HT_ ?_
  refine yr_ 14 27 bq_118 HT_ ?_
  refine yr_ 15 28 bq_119 HT_ ?_
  refine yr_ 16 29 bq_120 HT_ ?_
  refine yr_ 17 30 bq_121 HT_ ?_
  refine yr_ 18 31 bq_122 HT_ ?_
  refine ur_ 19 32 bq_123 HT_ ?_
  refine ur_ 20 33 bq_179 HT_ ?_
  refine ur_ 21 34 bq_180 HT_ ?_
  refine ur_ 22 35 bq_181 HT_ ?_
  refine ur_ 23 36 bq_182 HT_ ?_
  refine ur_ 24 37 bq_124 HT_ ?_
  refine ur_ 25 38 bq_125 HT_ ?_
  refine ur_ 26 39 bq_126 HT_ ?_
  refine ur_ 27 40 bq_127 HT_ ?_
  refine ur_ 28 41 bq_128 HT_ ?_
  refine yr_ 29 42 bq_129 HT_ ?_
  refine yr_ 30 43 bq_130 HT_ ?_
  refine done_ (done_of HT_.out kr_) ?_
  try go_wp2
  go_roundg k1
  case measure=>have:=HK1.out;omega
  case rel=>exact ⟨(wrap64 (x8_1+1)),tq_3,H',⟨tq_14⟩,⟨(kb_ a7)⟩,⟨th_⟩⟩
 rw [if_pos b7] at H
 have b9:=de_ b7
 clear b7
 obtain ⟨ji11,hji11⟩:∃ j_:Int,(wrap64 (x8_1 - 1))=j_:=⟨_,rfl⟩
 replace H:(if 0≤(ji11) then (if (ji11) < (a5.length:Int) then (if ((rd_T78 a5 x8_1).f0)≤((rd_T78 a5 (ji11)).f0) then (some false) else (impl_MemoryOk.l0 k1 a5 (a5.length:Int) (wrap64 (x8_1+1)) ac a5)) else (none)) else (none))=some r:=by first|(rw [hji11] at H;exact H)|(simp only [hji11] at H ⊢;exact H)
 (try rw [hji11] at A7)
 have hji11w:(IntKind.i64.wrap (x8_1 - 1))=ji11:=(i64_w _).trans hji11
 obtain ⟨br,H⟩:=fc_ H
 have bs:=de_ br
 clear br
 obtain ⟨bu,H⟩:=fc_ H
 have bv:=de_ bu
 clear bu
 have ba:=m_ H
 clear H
 have ai:0≤(x8_1:Int):=od_ tq_2
 have aj:x8_1 < (a5.length:Int):=od_ tq_2
 obtain ⟨ag,aw,a9,aa,ab⟩:=at_T78 HR0_1.out x8_1 ai aj
 cases aw
 replace a9:=hx_ HB.out a9
 replace aa:=hx_ HB.out aa
 replace ab:=hx_ HB.out ab
 replace ai:=eq_true ai
 replace aj:=eq_true aj
 try go_wp2_with (first|((with_reducible refine gate_dst (N:=4) rfl ?_);(try (refine gate_guard (by rfl) ?_;dsimp only));refine be_ 4 (cs:=#[.int .i64 0,.string (⟨#[]⟩:ByteArray),.bool false]) 78 ?_;intro a6 hg bg hbox hb;have z_:=bx1_ (kb_ a7) th_ hb hbox hg;clear a7 HB;obtain ⟨a7,HB,a8,az,b0,ae,af⟩:=z_;clear hb hbox hg;obtain ⟨ak,al⟩:=an2_ af ae;have bb:=bb3_ a8.out))
 have n0_:Aside0 ((((bg.setCell ⟨a6,0,none⟩ (.int .i64 ((rd_T78 a5 x8_1).f0))).setCell ⟨a6,1,none⟩ (.string ((rd_T78 a5 x8_1).f1))).setCell ⟨a6,2,none⟩ (.bool ((rd_T78 a5 x8_1).f2))).heap[ah]?=some (.cells #[.string ac,.slice (some ag) a5.length ap] 36 (0,0))):=⟨tb_⟩
 have n1_:Aside0 ((((bg.setCell ⟨a6,0,none⟩ (.int .i64 ((rd_T78 a5 x8_1).f0))).setCell ⟨a6,1,none⟩ (.string ((rd_T78 a5 x8_1).f1))).setCell ⟨a6,2,none⟩ (.bool ((rd_T78 a5 x8_1).f2))).heap[a6]?=some (.cells #[.int .i64 ((rd_T78 a5 x8_1).f0),.string ((rd_T78 a5 x8_1).f1),.bool ((rd_T78 a5 x8_1).f2)] 78 (0,0))):=⟨tb_⟩
 have n2_:Aside0 (Below w.heap.size w (((bg.setCell ⟨a6,0,none⟩ (.int .i64 ((rd_T78 a5 x8_1).f0))).setCell ⟨a6,1,none⟩ (.string ((rd_T78 a5 x8_1).f1))).setCell ⟨a6,2,none⟩ (.bool ((rd_T78 a5 x8_1).f2)))):=⟨th_⟩
 (try clear a7)
 (try clear a8)
 (try clear HB)
 generalize (((bg.setCell ⟨a6,0,none⟩ (.int .i64 ((rd_T78 a5 x8_1).f0))).setCell ⟨a6,1,none⟩ (.string ((rd_T78 a5 x8_1).f1))).setCell ⟨a6,2,none⟩ (.bool ((rd_T78 a5 x8_1).f2)))=ch at n0_ n1_ n2_ ⊢
 have a7:=n0_
 have a8:=n1_
 have HB:=n2_
 clear n0_ n1_ n2_
 have z_:=dw2_ a7 a8 HB
 clear a7 a8 HB
 obtain ⟨a7,a8,HB⟩:=z_
 have b5:0≤((ji11):Int):=od_ tq_2
 have b6:(ji11) < (a5.length:Int):=od_ tq_2
 obtain ⟨bc,bn,am,an,ao⟩:=at_T78 HR0_1.out (ji11) b5 b6
 have aq:=ao
 have ar:=an
 have au:=am
 obtain rfl:ag=bc:=(by injection bn)
 replace am:=hx_ HB.out am
 replace an:=hx_ HB.out an
 replace ao:=hx_ HB.out ao
 replace b5:=eq_true b5
 replace b6:=eq_true b6
 refine start_ (n:=31) (S:=fun w'=>w'.cell? ⟨a6,0,none⟩=some (.int .i64 ((rd_T78 a5 x8_1).f0))∧w'.cell? ⟨a6,1,none⟩=some (.string ((rd_T78 a5 x8_1).f1))∧w'.cell? ⟨a6,2,none⟩=some (.bool ((rd_T78 a5 x8_1).f2))∧w'.cell? ⟨ah,0,none⟩=some (.string ac)∧w'.cell? ⟨ah,1,none⟩=some (.slice (some ag) a5.length ap)∧w'.cell? (ag.add (((ji11)).toNat * 3))=some (.int .i64 ((rd_T78 a5 (ji11)).f0))∧w'.cell? ⟨(ag.add (((ji11)).toNat * 3)).block,(ag.add (((ji11)).toNat * 3)).off+1,none⟩=some (.string ((rd_T78 a5 (ji11)).f1))∧w'.cell? ⟨(ag.add (((ji11)).toNat * 3)).block,(ag.add (((ji11)).toNat * 3)).off+2,none⟩=some (.bool ((rd_T78 a5 (ji11)).f2))) (ds:=[]) bq_103 kr_ rfl rfl (bc3_ a8.out (bc2_ a7.out ⟨((HB.out.cell (World.block_lt_of_cell? w _ au)).trans au),((HB.out.cell (World.block_lt_of_cell? w _ ar)).trans ar),((HB.out.cell (World.block_lt_of_cell? w _ aq)).trans aq)⟩)) (fun hHeld=>?_);refine with_tabW impl_MemoryOk.tab4 impl_MemoryOk.bits4 (fun HT_ HW_=>?_)
 generalize ch.drew=cl at a7 a8 HB am an ao hHeld ⊢
 refine yr_ 0 13 bq_104 HT_ ?_
 refine yr_ 2 15 bq_105 HT_ ?_
 refine tr_ 1 14 bq_106 HT_ HW_ hHeld ?_
 refine tr_ 3 16 bq_107 HT_ HW_ hHeld ?_
 refine yr_ 4 17 bq_108 HT_ ?_
 refine yr_ 5 18 bq_109 HT_ ?_
 refine yr_ 6 19 bq_110 HT_ ?_
 refine one_ (i:=7) (N:=some 20) bq_111 rfl rfl (one_of HT_.out kr_) (by decide) (fun K hK=>?_)
 refine goes_ Tryz.func57 kr_ rfl #[.int .i64 ((rd_T78 a5 x8_1).f0),.int .i64 0,.int .i64 (wrap64 ((wrap64 ((ac.size:Int) / 16)) - 1))] (by rfl) rfl rfl tq_0 ?_
 with_reducible refine (impl_within.calls ((rd_T78 a5 x8_1).f0) 0 (wrap64 ((wrap64 ((ac.size:Int) / 16)) - 1)) true _ A7.out).mono ?_
 rintro e w' ⟨rfl,⟨nd,rfl⟩⟩
 refine ⟨_,rfl,?_⟩
 refine hK.out _ _ (bc3_ a8.out (bc2_ a7.out ⟨((HB.out.cell (World.block_lt_of_cell? w _ au)).trans au),((HB.out.cell (World.block_lt_of_cell? w _ ar)).trans ar),((HB.out.cell (World.block_lt_of_cell? w _ aq)).trans aq)⟩)) (fun hHeld=>?_)
 clear hK K
 refine nm_ (some 20) ?_
 refine yr_ 8 21 bq_112 HT_ ?_
 refine yr_ 9 22 bq_113 HT_ ?_
 refine yr_ 10 23 bq_114 HT_ ?_
 refine tr_ 11 24 bq_115 HT_ HW_ hHeld ?_
 refine yr_ 12 25 bq_116 HT_ ?_
 refine yr_ 13 26 bq_117 HT_ ?_
 refine yr_ 14 27 bq_118 HT_ ?_
 refine yr_ 15 28 bq_119 HT_ ?_
 refine yr_ 16 29 bq_120 HT_ ?_
 refine yr_ 17 30 bq_121 HT_ ?_
 refine yr_ 18 31 bq_122 HT_ ?_
 refine yr_ 19 32 bq_123 HT_ ?_
 refine yr_ 21 34 #[T_,T_,T_,T_,T_,T_,T_,T_,T_,T_,T_,T_,T_,T_,T_,T_,T_,T_,T_,T_,F_,T_,F_,F_,F_,F_,F_,F_,F_,F_,F_] HT_ ?_
 refine yr_ 23 36 #[T_,T_,T_,T_,T_,T_,T_,T_,T_,T_,T_,T_,T_,T_,T_,T_,T_,T_,T_,T_,F_,T_,F_,T_,F_,F_,F_,F_,F_,F_,F_] HT_ ?_
 refine yr_ 24 37 #[T_,T_,T_,T_,T_,T_,T_,T_,T_,T_,T_,T_,T_,T_,T_,T_,T_,T_,T_,T_,F_,T_,F_,T_,T_,F_,F_,F_,F_,F_,F_] HT_ ?_
 refine tr_ 20 33 #[T_,T_,T_,T_,T_,T_,T_,T_,T_,T_,T_,T_,T_,T_,T_,T_,T_,T_,T_,T_,T_,T_,F_,T_,T_,F_,F_,F_,F_,F_,F_] HT_ HW_ hHeld ?_
 refine tr_ 22 35 bq_124 HT_ HW_ hHeld ?_
 refine yr_ 25 38 bq_125 HT_ ?_
 refine yr_ 26 39 bq_126 HT_ ?_
 refine tr_ 27 40 bq_127 HT_ HW_ hHeld ?_
 refine yr_ 28 41 bq_128 HT_ ?_
 refine yr_ 29 42 bq_129 HT_ ?_
 refine yr_ 30 43 bq_130 HT_ ?_
 refine done_ (done_of HT_.out kr_) ?_
 go_upto_if 43 with (fail)
 (try clear al ak)
 (try clear bb)
 (try clear bh)
 (try clear bb)
 (try clear bh)
 (try clear a9 aa ab)
 (try clear am an ao)
 have H:=ba.out
 clear ba
 by_cases b8:((rd_T78 a5 x8_1).f0)≤((rd_T78 a5 (ji11)).f0)
 ·rw [if_pos b8] at H
  have av:=de_ b8
  clear b8
  (first|rw [av]|(simp only [i64_w,i32_w];rw [av])|skip)
  obtain rfl:=oi_ H
  go_wp2
  go_ret
  exact ⟨(by first|rfl|(simp [errW_none,errW_some] <;> rfl)|(simp only [← hji11];first|rfl|(simp [errW_none,errW_some] <;> rfl))|(simp [*,errW_none,errW_some] <;> rfl)),th_⟩
 rw [if_neg b8] at H
 have av:=df_ b8
 clear b8
 (first|rw [av]|(simp only [i64_w,i32_w];rw [av])|skip)
 have H':=m_ H
 clear H
 go_wp2
 go_roundg k1
 case measure=>have:=HK1.out;omega
 case rel=>exact ⟨(wrap64 (x8_1+1)),tq_3,H',⟨tq_14⟩,⟨(kb_ a7)⟩,⟨th_⟩⟩

end Go.Proofs.YtleoknilacjakaaGreatDoor.PFnExactReadPart
