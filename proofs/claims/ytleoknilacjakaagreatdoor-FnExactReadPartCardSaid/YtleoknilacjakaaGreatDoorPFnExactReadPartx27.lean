/- Contracts of Go functions: each call returns what the Lean function beside it computes. Conditions: as each theorem states them. -/
import Derived.Test.YtleoknilacjakaaGreatDoorPkFnExactReadPart
import Derived.Test.YtleoknilacjakaaGreatDoorPFnExactReadPartx3
import Derived.Test.YtleoknilacjakaaGreatDoorPFnExactReadPartx16
import Derived.Test.YtleoknilacjakaaGreatDoorPFnExactReadPartx20
import Derived.Test.YtleoknilacjakaaGreatDoorPFnExactReadPartx24
namespace Go.Proofs.YtleoknilacjakaaGreatDoor.PFnExactReadPart
open Go.RowKit Go.Proofs.YtleoknilacjakaaGreatDoorW.PrintWords Go.Proofs.YtleoknilacjakaaGreatDoorW.PrintLast Go.Proofs.YtleoknilacjakaaGreatDoorW.PrintMore
attribute [local go_sem] max2_int min2_int max_two min_two max_three min_three max_four min_four setCell_drewN   -- for this text's walks alone
set_option linter.unusedVariables false
set_option maxHeartbeats 8000000
set_option maxRecDepth 100000
set_option linter.unusedSimpArgs false

mutual
def impl_readPart.j0:Nat→Int→Int→List Int→Bool→ByteArray→List (S78)→Int→Int→Int→Int→Option (Int × List Int × (List (S62)) × Bool)
 | 0,_,_,_,_,_,_,_,_,_,_=>none
 | k+1,x2,x8,ab,ac,a6,a7,a8,a9,a5,aa=>if ac=true then (some (0,([]:List Int),([]:List (S62)),false)) else (impl_readPart.l0 k x2 a5 0 a6 a7 a8 a9 a5 aa x8 ab ([]:List (S62)))
def impl_readPart.l0:Nat→Int→Int→Int→ByteArray→List (S78)→Int→Int→Int→Int→Int→List Int→List (S62)→Option (Int × List Int × (List (S62)) × Bool)
 | 0,_,_,_,_,_,_,_,_,_,_,_,_=>none
 | k+1,x2,aj,ag,a7,a8,a9,aa,ab,ac,ae,af,a6=>if ag < aj then ((impl_InodeAt.f a9 aa ab ac x2 ag).bind fun ah=>((impl_readWords.f k a7 a8 ah 8).bind fun ai=>((impl_ReadInode.f k ai).bind fun a5=>(if a5.2.2.2.2.2.2=true then (if a6.length < 1599289640401 then (impl_readPart.l0 k x2 aj (wrap64 (ag+1)) a7 a8 a9 aa ab ac ae af (a6++[(⟨a5.1,a5.2.1,a5.2.2.1,a5.2.2.2.1,a5.2.2.2.2.1,a5.2.2.2.2.2.1⟩:S62)])) else (none)) else (some (0,([]:List Int),([]:List (S62)),false)))))) else (some (ae,af,a6,true))
end
def impl_readPart.f (k:Nat) (a8:ByteArray) (a9:List (S78)) (aa:Int) (a5:Int) (ab:Int) (ac:Int) (a2:Int):Option (Int × List Int × (List (S62)) × Bool):=(impl_SerialAt.f aa a5 ab ac a2).bind fun ae=>((impl_Memory_word.f k a8 a9 ae).bind fun af=>((impl_readSerial.f k af).bind fun a6=>((impl_statesAt.f aa a5 ab ac a2).bind fun ag=>((impl_readWords.f k a8 a9 ag 2).bind fun ah=>((impl_ReadStates.f k ah a5).bind fun a7=>(if a6.2=true then (impl_readPart.j0 k a2 a6.1 a7.1 (!a7.2) a8 a9 aa a5 ab ac) else (impl_readPart.j0 k a2 a6.1 a7.1 true a8 a9 aa a5 ab ac)))))))
def impl_readPart.T1:Bool × List (List Nat × List Nat):=(true,[([],[]),([],[]),([],[]),([1,2],[1,2]),([0,3,3],[0,3]),([4,4],[4]),([5],[5]),([6],[6]),([6],[6]),([7,5,0,1,2,3,4,5,6,7],[7]),([8,9,0,1,2,3,4,5,6,7,8,9],[8])])
def impl_readPart.B1:List Nat:=[0,0,0,6,15,31,63,127,127,255,1023]
theorem impl_readPart.tab1:rtab .any (opsOf Tryz.f31 1)=impl_readPart.T1:=by kernel_rfl
theorem impl_readPart.bits1:waitsOk impl_readPart.T1.2 impl_readPart.B1=true:=by kernel_rfl
def impl_readPart.T2:Bool × List (List Nat × List Nat):=(true,[([],[]),([],[]),([],[]),([1,2],[1,2]),([0,3,3],[0,3]),([],[]),([5],[5]),([4,6,4],[4,6]),([7],[7]),([8],[8]),([8],[8]),([9,7,0,1,2,3,4,5,6,7,8,9],[9]),([10,11,0,1,2,3,4,5,6,7,8,9,10,11],[10])])
def impl_readPart.B2:List Nat:=[0,0,0,6,15,0,32,127,255,511,511,1023,4095]
theorem impl_readPart.tab2:rtab .any (opsOf Tryz.f31 2)=impl_readPart.T2:=by kernel_rfl
theorem impl_readPart.bits2:waitsOk impl_readPart.T2.2 impl_readPart.B2=true:=by kernel_rfl
def impl_readPart.T9:Bool × List (List Nat × List Nat):=(true,[([],[]),([],[]),([],[]),([],[]),([1,2,3],[1,2,3]),([0,4,4],[0,4]),([5,5],[5]),([6],[6]),([7],[7]),([7],[7]),([],[]),([10,8,6,0,1,2,3,4,5,6,7,8,10],[8,10]),([9,11,0,1,2,3,4,5,6,7,8,9,10,11],[9])])
def impl_readPart.B9:List Nat:=[0,0,0,0,14,31,63,127,255,255,0,1535,4095]
theorem impl_readPart.tab9:rtab .any (opsOf Tryz.f31 9)=impl_readPart.T9:=by kernel_rfl
theorem impl_readPart.bits9:waitsOk impl_readPart.T9.2 impl_readPart.B9=true:=by kernel_rfl
theorem impl_readPart.calls (k:Nat) (aw:ByteArray) (b6:Option Addr) (b7:Nat) (ao:List (S78)) (b3:Int) (ax:Int) (ar:Int) (b4:Int) (a2:Int) (r1:Int) (r2:List Int) (r3:List (S62)) (r4:Bool) (w:World) (d8:Kd.C k78 w b6 ao.length ao) (d9:ao.length≤b7) (h:impl_readPart.f k aw ao b3 ax ar b4 a2=some (r1,r2,r3,r4)) :
  Calls Tryz.prog 31 #[.agg #[.string aw,.slice b6 ao.length b7],.agg #[.int .i64 b3,.int .i64 ax,.int .i64 ar,.int .i64 b4],.int .i64 a2] w fun e w'=>∃ v1_ v2_:Value,e=.returned (.tuple #[.agg #[.int .i64 r1,v1_,v2_],.bool r4])∧Kd.R (Kd.int .i64) 3 w' w.heap.size (fun _=>True) v1_ r2∧Kd.S k62 62 w' w.heap.size (fun _=>True) v2_ r3∧Below w.heap.size w w':=by
 have hu36:=Tryz.underlying36
 have hu38:=Tryz.underlying38
 have hu31:=Tryz.underlying31
 have hu62:=Tryz.underlying62
 have HR0_1:=m_ d8
 have ch:=m_ d9
 clear d8 d9
 have HB:=m_ (Below.refl w.heap.size w)
 unfold impl_readPart.f at h
 have H:=h
 clear h
 obtain ⟨dc,A4,H⟩:=bd_ H
 obtain ⟨dd,A5,H⟩:=bd_ H
 obtain ⟨⟨bx,dk⟩,A6,H⟩:=bd_ H
 try dsimp -simprocs only at H
 obtain ⟨de,A7,H⟩:=bd_ H
 obtain ⟨df,A8,H⟩:=bd_ H
 obtain ⟨⟨b8,dl⟩,A9,H⟩:=bd_ H
 try dsimp -simprocs only at H
 have dg:=m_ H
 clear H
 go_enter Tryz.func31,Tryz.ntmps31
 try go_wp2_with (first|((with_reducible refine gate_dst (N:=3) rfl ?_);refine be_ 3 (cs:=#[.string aw,.slice b6 ao.length b7]) 36 ?_;intro an hg f7 hbox hb;have z_:=bx0_ th_ hb hbox hg;clear HB;obtain ⟨HB,a6,ed,ee⟩:=z_;clear hb hbox hg)|((with_reducible refine gate_dst (N:=4) rfl ?_);refine be_ 4 (cs:=#[.int .i64 b3,.int .i64 ax,.int .i64 ar,.int .i64 b4]) 38 ?_;intro af hg f8 hbox hb;have z_:=bx1_ (kb_ a6) th_ hb hbox hg;clear a6 HB;obtain ⟨a6,HB,a7,ef,eh,d1,d2⟩:=z_;clear hb hbox hg)|((with_reducible refine gate_dst (N:=6) rfl ?_);refine be_ 6 (cs:=#[.int .i64 0,.slice none 0 0,.slice none 0 0]) 31 ?_;intro b5 hg er hbox hb;have z_:=bx2_ (kb_ a6) (kb_ a7) th_ hb hbox hg;clear a6 a7 HB;obtain ⟨a6,a7,HB,a9,ei,ej,bh,bi,bj,bl⟩:=z_;clear hb hbox hg))
 have z_:=dw3_ a6 a7 a9 HB
 clear a6 a7 a9 HB
 obtain ⟨a6,a7,a9,HB⟩:=z_
 refine start_ (n:=11) (S:=fun w'=>w'.cell? ⟨an,0,none⟩=some (.string aw)∧w'.cell? ⟨an,1,none⟩=some (.slice b6 ao.length b7)∧w'.cell? ⟨af,0,none⟩=some (.int .i64 b3)∧w'.cell? ⟨af,1,none⟩=some (.int .i64 ax)∧w'.cell? ⟨af,2,none⟩=some (.int .i64 ar)∧w'.cell? ⟨af,3,none⟩=some (.int .i64 b4)) (ds:=[]) bq_70 kr_ rfl rfl (bc2_ a6.out (bk4_ a7.out)) (fun hHeld=>?_);refine with_tabW impl_readPart.tab1 impl_readPart.bits1 (fun HT_ HW_=>?_)
 generalize er.drew=f9 at a6 a7 a9 HB hHeld ⊢
 refine yr_ 2 19 #[F_,F_,T_,F_,F_,F_,F_,F_,F_,F_,F_] HT_ ?_
 refine tr_ 0 17 #[T_,F_,T_,F_,F_,F_,F_,F_,F_,F_,F_] HT_ HW_ hHeld ?_
 refine tr_ 1 18 #[T_,T_,T_,F_,F_,F_,F_,F_,F_,F_,F_] HT_ HW_ hHeld ?_
 refine one_ (i:=3) (N:=some 20) bq_273 rfl rfl (one_of HT_.out kr_) (by decide) (fun K hK=>?_)
 refine goes_ Tryz.func60 kr_ rfl #[.agg #[.int .i64 b3,.int .i64 ax,.int .i64 ar,.int .i64 b4],.int .i64 a2] (by rfl) rfl rfl tq_0 ?_
 with_reducible refine (impl_SerialAt.calls b3 ax ar b4 a2 dc _ A4.out).mono ?_
 rintro e fa ⟨rfl,hb⟩
 refine ⟨_,rfl,?_⟩
 have z_:=bw3_ (kb_ a6) (kb_ a7) (kb_ a9) th_ hb
 clear a6 a7 a9 HB
 obtain ⟨a6,a7,a9,HB⟩:=z_
 (try clear hb)
 refine hK.out _ _ (bc2_ a6.out (bk4_ a7.out)) (fun hHeld=>?_)
 clear hK K
 refine nm_ (some 20) ?_
 refine one_ (i:=4) (N:=some 21) bq_274 rfl rfl (one_of HT_.out kr_) (by decide) (fun K hK=>?_)
 refine goes_ Tryz.func59 kr_ rfl #[.agg #[.string aw,.slice b6 ao.length b7],.int .i64 dc] (by rfl) rfl rfl tq_0 ?_
 with_reducible refine (impl_Memory_word.calls k aw _ _ ao dc dd _ ?side1 ?side2 A5.out).mono ?_
 (case side1=>exact tq_4)
 (case side2=>exact ch.out)
 rintro e fb ⟨rfl,hb⟩
 refine ⟨_,rfl,?_⟩
 have z_:=bw3_ (kb_ a6) (kb_ a7) (kb_ a9) th_ hb
 clear a6 a7 a9 HB
 obtain ⟨a6,a7,a9,HB⟩:=z_
 (try clear hb)
 refine hK.out _ _ (bc2_ a6.out (bk4_ a7.out)) (fun hHeld=>?_)
 clear hK K
 refine nm_ (some 21) ?_
 refine one_ (i:=5) (N:=some 22) bq_275 rfl rfl (one_of HT_.out kr_) (by decide) (fun K hK=>?_)
 refine goes_ Tryz.func58 kr_ rfl #[.string dd] (by rfl) rfl rfl tq_0 ?_
 with_reducible refine (impl_readSerial.calls k dd bx dk _ A6.out).mono ?_
 rintro e es ⟨rfl,hb⟩
 refine ⟨_,rfl,?_⟩
 have z_:=bw3_ (kb_ a6) (kb_ a7) (kb_ a9) th_ hb
 clear a6 a7 a9 HB
 obtain ⟨a6,a7,a9,HB⟩:=z_
 (try clear hb)
 refine hK.out _ _ (bc2_ a6.out (bk4_ a7.out)) (fun hHeld=>?_)
 clear hK K
 refine nm_ (some 22) ?_
 refine yr_ 6 16 bq_276 HT_ ?_
 refine yr_ 7 23 bq_277 HT_ ?_
 refine yr_ 8 24 bq_2 HT_ ?_
 refine yr_ 9 8 bq_71 HT_ ?_
 refine yr_ 10 9 bq_72 HT_ ?_
 refine done_ (done_of HT_.out kr_) ?_
 try go_wp2
 have z_:=dw3_ a6 a7 a9 HB
 clear a6 a7 a9 HB
 obtain ⟨a6,a7,a9,HB⟩:=z_
 refine start_ (n:=13) (S:=fun w'=>w'.cell? ⟨an,0,none⟩=some (.string aw)∧w'.cell? ⟨an,1,none⟩=some (.slice b6 ao.length b7)∧w'.cell? ⟨af,0,none⟩=some (.int .i64 b3)∧w'.cell? ⟨af,1,none⟩=some (.int .i64 ax)∧w'.cell? ⟨af,2,none⟩=some (.int .i64 ar)∧w'.cell? ⟨af,3,none⟩=some (.int .i64 b4)) (ds:=[]) bq_30 kr_ rfl rfl (bc2_ a6.out (bk4_ a7.out)) (fun hHeld=>?_);refine with_tabW impl_readPart.tab2 impl_readPart.bits2 (fun HT_ HW_=>?_)
 generalize es.drew=fc at a6 a7 a9 HB hHeld ⊢
 refine yr_ 2 28 bq_99 HT_ ?_
 refine yr_ 5 31 bq_262 HT_ ?_
 refine tr_ 0 26 bq_263 HT_ HW_ hHeld ?_
 refine tr_ 1 27 bq_264 HT_ HW_ hHeld ?_
 refine tr_ 6 32 bq_265 HT_ HW_ hHeld ?_
 refine one_ (i:=3) (N:=some 29) bq_266 rfl rfl (one_of HT_.out kr_) (by decide) (fun K hK=>?_)
 refine goes_ Tryz.func63 kr_ rfl #[.agg #[.int .i64 b3,.int .i64 ax,.int .i64 ar,.int .i64 b4],.int .i64 a2] (by rfl) rfl rfl tq_0 ?_
 with_reducible refine (impl_statesAt.calls b3 ax ar b4 a2 de _ A7.out).mono ?_
 rintro e fd ⟨rfl,hb⟩
 refine ⟨_,rfl,?_⟩
 have z_:=bw3_ (kb_ a6) (kb_ a7) (kb_ a9) th_ hb
 clear a6 a7 a9 HB
 obtain ⟨a6,a7,a9,HB⟩:=z_
 (try clear hb)
 refine hK.out _ _ (bc2_ a6.out (bk4_ a7.out)) (fun hHeld=>?_)
 clear hK K
 refine nm_ (some 29) ?_
 refine one_ (i:=4) (N:=some 30) bq_100 rfl rfl (one_of HT_.out kr_) (by decide) (fun K hK=>?_)
 refine goes_ Tryz.func62 kr_ rfl #[.agg #[.string aw,.slice b6 ao.length b7],.int .i64 de,.int .i64 2] (by rfl) rfl rfl tq_0 ?_
 with_reducible refine (impl_readWords.calls k aw _ _ ao de 2 df _ ?side1 ?side2 A8.out).mono ?_
 (case side1=>exact tq_4)
 (case side2=>exact ch.out)
 rintro e fe ⟨v614,rfl,ho0,hb⟩
 refine ⟨_,rfl,?_⟩
 have z_:=p_ (Kd.R_lower ho0 (below_size th_)) <| bw3_ (kb_ a6) (kb_ a7) (kb_ a9) th_ hb
 clear a6 a7 a9 HB
 obtain ⟨cb,a6,a7,a9,HB⟩:=z_
 (try clear hb)
 (try clear ho0)
 obtain ⟨e2,e3,dm⟩:=Kd.R_slice cb.out
 (first|subst dm|(injection dm with f1_ f2_ f3_;have f4_:=f1_.symm;have f5_:=f3_.symm;clear f1_ f2_ f3_;subst f4_;subst f5_))
 refine hK.out _ _ (bc2_ a6.out (bk4_ a7.out)) (fun hHeld=>?_)
 clear hK K
 refine nm_ (some 30) ?_
 refine one_ (i:=7) (N:=some 33) bq_101 rfl rfl (one_of HT_.out kr_) (by decide) (fun K hK=>?_)
 refine goes_ Tryz.func61 kr_ rfl #[.slice e2 df.length e3,.int .i64 ax] (by rfl) rfl rfl tq_0 ?_
 with_reducible refine (impl_ReadStates.calls k _ _ df ax b8 dl _ ?side1 ?side2 A9.out).mono ?_
 (case side1=>repeat (first|exact (Kd.R_reads' cb.out).2.2|(with_reducible refine Kd.C_alloc ?_ _)|(with_reducible refine Kd.C_drewN ?_ _)|(with_reducible refine Kd.C_drew ?_)))
 (case side2=>exact (Kd.R_reads' cb.out).2.1)
 rintro e ff ⟨v618,rfl,ho0,hb⟩
 refine ⟨_,rfl,?_⟩
 have z_:=p_ (Kd.R_below (raR_ cb) hb) <| p_ (Kd.R_lower ho0 (below_size th_)) <| bw3_ (kb_ a6) (kb_ a7) (kb_ a9) th_ hb
 clear cb a6 a7 a9 HB
 obtain ⟨cb,da,a6,a7,a9,HB⟩:=z_
 (try clear hb)
 (try clear ho0)
 refine hK.out _ _ (bc2_ a6.out (bk4_ a7.out)) (fun hHeld=>?_)
 clear hK K
 refine nm_ (some 33) ?_
 refine yr_ 8 25 bq_31 HT_ ?_
 refine yr_ 9 34 bq_32 HT_ ?_
 refine yr_ 10 35 bq_0 HT_ ?_
 refine yr_ 11 10 bq_33 HT_ ?_
 refine yr_ 12 11 bq_34 HT_ ?_
 refine done_ (done_of HT_.out kr_) ?_
 go_upto_region 3 with (fail)
 go_cut [41] (fun v41 wc=>∃ (kq:Nat) (d0:Bool),v41=.bool d0∧Aside0 (impl_readPart.j0 kq a2 bx b8 d0 aw ao b3 ax ar b4=some (r1,r2,r3,r4))∧Aside0 (kq≤k)∧Aside0 (Kd.R (Kd.int .i64) 3 wc w.heap.size (fun _=>True) v618 b8)∧Aside0 (wc.heap[an]?=some (.cells #[.string aw,(.slice b6 ao.length b7)] 36 (0,0)))∧Aside0 (wc.heap[af]?=some (.cells #[.int .i64 b3,.int .i64 ax,.int .i64 ar,.int .i64 b4] 38 (0,0)))∧Aside0 (wc.heap[b5]?=some (.cells #[.int .i64 0,(.slice none 0 0),(.slice none 0 0)] 31 (0,0)))∧Aside0 (Below w.heap.size w wc))
 case first =>
  have H:=dg.out
  clear dg
  by_cases di:dk=true
  ·subst di
   rw [if_pos rfl] at H
   have H':=m_ H
   clear H
   go_wp2
   go_meet
   case rel=>exact ⟨_,(!dl),tq_3,H',⟨tq_12⟩,⟨(raR_ da)⟩,⟨(kb_ a6)⟩,⟨(kb_ a7)⟩,⟨(kb_ a9)⟩,⟨th_⟩⟩
  replace di:=Bool.eq_false_iff.mpr di
  subst di
  rw [if_neg nf_] at H
  have H':=m_ H
  clear H
  go_wp2
  go_meet
  case rel=>exact ⟨_,(true),tq_3,H',⟨tq_12⟩,⟨(raR_ da)⟩,⟨(kb_ a6)⟩,⟨(kb_ a7)⟩,⟨(kb_ a9)⟩,⟨th_⟩⟩
 case rest =>
 clear dg
 try clear c2;try clear p2;try clear c3;try clear c5;try clear c6;try clear di
 obtain ⟨kq,d0,rfl,HA,HJ9,ci,a6,a7,a9,HB⟩:=hcut
 cases kq with
 | zero=>exact absurd HA.out (by simp [impl_readPart.j0])
 | succ kj9 =>
 have H:=HA.out
 clear HA
 simp only [impl_readPart.j0] at H
 by_cases dn:d0=true
 ·subst dn
  rw [if_pos rfl] at H
  simp only [Option.some.injEq,Prod.mk.injEq] at H
  obtain ⟨rfl,rfl,rfl,rfl⟩:=H
  obtain ⟨cj,ck,bq,br⟩:=an4_ bi bh bl bj
  have dp:=bb3_ a9.out
  go_wp2
  refine bodyPost_ret (results_ct rfl _ _ b5 31 #[.int .i64 0,.slice none 0 0,.slice none 0 0] (0,0) _ rfl tb_ Tryz.underlying31 rfl kr_) rfl ?_
  exact ⟨_,_,tq_1,tq_5,tq_13,th_⟩
 replace dn:=Bool.eq_false_iff.mpr dn
 subst dn
 rw [if_neg nf_] at H
 have H':=m_ H
 clear H
 obtain ⟨bz,ca,e4⟩:=Kd.R_slice ci.out
 subst e4
 go_wp2_with (first|((with_reducible refine gate_dst (N:=12) rfl ?_);refine be_ 12 (cs:=#[.int .i64 0,.slice none 0 0,.slice none 0 0]) 31 ?_;intro bg hg fg hbox hb;have z_:=p_ (Kd.R_below (raR_ ci) hb) <| bx3_ (kb_ a6) (kb_ a7) (kb_ a9) th_ hb hbox hg;clear ci a6 a7 a9 HB;obtain ⟨ci,a6,a7,a9,HB,ab,ek,el,cc,cd,ce,cf,bm,bn⟩:=z_;clear hb hbox hg;obtain ⟨cl,cm,cn,co,bs,bu⟩:=an6_ cd cc cf ce bn bm;have d6:=bb3_ ab.out;obtain ⟨d3,d4,br,bq⟩:=an4_ d2 d1 bj bl;have d7:=bb4_ a7.out))
 go_loopg [48] kj9 (fun kq v48 w'=>∃ (bf:Int) (ay:Int) (am:List (S62)) (u621002:Value),v48=.int .i64 bf∧Aside0 (impl_readPart.l0 kq a2 ar bf aw ao b3 ax ar b4 bx b8 am=some (r1,r2,r3,r4))∧Aside0 (kq≤kj9)∧Aside0 (Kd.R (Kd.int .i64) 3 w' w.heap.size (fun _=>True) (.slice bz b8.length ca) b8)∧Aside0 (Kd.S k62 62 w' w.heap.size (fun _=>True) u621002 am)∧Aside0 (w'.heap[an]?=some (.cells #[.string aw,(.slice b6 ao.length b7)] 36 (0,0)))∧Aside0 (w'.heap[af]?=some (.cells #[.int .i64 b3,.int .i64 ax,.int .i64 ar,.int .i64 b4] 38 (0,0)))∧Aside0 (w'.heap[b5]?=some (.cells #[.int .i64 ay,(.slice none 0 0),(.slice none 0 0)] 31 (0,0)))∧Aside0 (w'.heap[bg]?=some (.cells #[.int .i64 bx,(.slice bz b8.length ca),u621002] 31 (0,0)))∧Aside0 (Below w.heap.size w w'))
 case atStart=>exact ⟨(0),(0),(([]:List (S62))),(.slice none 0 0),tq_3,H',⟨Nat.le_refl _⟩,⟨(by (with_reducible repeat (first|apply Kd.R_alloc|apply Kd.R_drewN|apply Kd.R_drew));exact Kd.R_mono (rR_ (rR_ (rR_ (Kd.R_types ci.out ab.out (by decide))))) (fun _ hk=>trivial))⟩,⟨tq_13⟩,⟨tb_⟩,⟨tb_⟩,⟨tb_⟩,⟨tb_⟩,⟨th_⟩⟩
 case round =>
 clear H'
 try clear c2;try clear p2;try clear c3;try clear c5;try clear c6;try clear di;try clear dn;try clear fh;try clear fi;try clear fj;try clear fk;try clear fl;try clear fm;try clear fn;try clear dp;try clear d6;try clear d7;try clear dp;try clear d6;try clear d7;try clear p2
 obtain ⟨bf,ay,am,u621002,rfl,HA,em,a5,HO_621002,a6,a7,a9,ab,HB⟩:=hrel
 cases gk with
 | zero=>exact absurd HA.out (by simp [impl_readPart.l0])
 | succ k2 =>
 have H:=HA.out
 clear HA
 simp only [impl_readPart.l0] at H
 by_cases dj:bf < ar
 rotate_left
 ·rw [if_neg dj] at H
  have dq:=df_ dj
  clear dj
  simp only [Option.some.injEq,Prod.mk.injEq] at H
  obtain ⟨rfl,rfl,rfl,rfl⟩:=H
  have et:=bb3_ ab.out
  obtain ⟨cj,ck⟩:=an2_ bi bh
  have eu:=bb3_ a9.out
  obtain ⟨e5,e6,e7⟩:=Kd.S_slice HO_621002.out
  subst e7
  go_wp2
  refine bodyPost_ret (results_ct rfl _ _ b5 31 #[.int .i64 bx,.slice bz b8.length ca,.slice e5 am.length e6] (0,0) _ rfl tb_ Tryz.underlying31 rfl kr_) rfl ?_
  exact ⟨_,_,tq_1,(by (with_reducible repeat (first|apply Kd.R_alloc|apply Kd.R_drewN|apply Kd.R_drew));exact Kd.R_mono (rR_ (rR_ (rR_ (Kd.R_types a5.out a9.out (by decide))))) (fun _ hk=>trivial)),(by (with_reducible repeat (first|apply Kd.S_alloc|apply Kd.S_drewN|apply Kd.S_drew));exact Kd.S_mono (rS_ (rS_ (rS_ (Kd.S_types HO_621002.out a9.out (by decide))))) (fun _ hk=>trivial)),th_⟩
 rw [if_pos dj] at H
 have dq:=de_ dj
 clear dj
 obtain ⟨cg,en,H⟩:=bd_ H
 obtain ⟨bd,e8,H⟩:=bd_ H
 obtain ⟨⟨az,b0,b1,b2,ap,aq,cp⟩,e0,H⟩:=bd_ H
 try dsimp -simprocs only at H
 have dr:=m_ H
 clear H
 try go_wp2
 have z_:=p_ (Kd.R_drew a5.out) <| p_ (Kd.S_drew HO_621002.out) <| dw4_ a6 a7 a9 ab HB
 clear a5 HO_621002 a6 a7 a9 ab HB
 obtain ⟨a5,HO_621002,a6,a7,a9,ab,HB⟩:=z_
 refine start_ (n:=13) (S:=fun w'=>w'.cell? ⟨an,0,none⟩=some (.string aw)∧w'.cell? ⟨an,1,none⟩=some (.slice b6 ao.length b7)∧w'.cell? ⟨af,0,none⟩=some (.int .i64 b3)∧w'.cell? ⟨af,1,none⟩=some (.int .i64 ax)∧w'.cell? ⟨af,2,none⟩=some (.int .i64 ar)∧w'.cell? ⟨af,3,none⟩=some (.int .i64 b4)) (ds:=[]) bq_30 kr_ rfl rfl (bc2_ a6.out (bk4_ a7.out)) (fun hHeld=>?_);refine with_tabW impl_readPart.tab9 impl_readPart.bits9 (fun HT_ HW_=>?_)
 generalize wr.drew=fo at a5 HO_621002 a6 a7 a9 ab HB hHeld ⊢
 refine yr_ 2 54 bq_99 HT_ ?_
 refine yr_ 3 55 bq_267 HT_ ?_
 refine tr_ 0 52 bq_268 HT_ HW_ hHeld ?_
 refine tr_ 1 53 bq_269 HT_ HW_ hHeld ?_
 refine join_ (σ:=Value × Value × Value × Nat) 2 bq_0 (fun s_=>[(56,.int .i64 cg),(57,s_.1),(58,.tuple #[.agg #[.int .i64 az,.int .i64 b0,.int .i64 b1,.string b2,s_.2.1,s_.2.2.1],.bool cp]),(14,.pointer (some ⟨s_.2.2.2,0,none⟩)),(51,.tuple #[.agg #[.int .i64 az,.int .i64 b0,.int .i64 b1,.string b2,s_.2.1,s_.2.2.1],.bool cp]),(59,.agg #[.int .i64 az,.int .i64 b0,.int .i64 b1,.string b2,s_.2.1,s_.2.2.1]),(60,.bool cp)]) (fun s_ w'=>(w'.cell? ⟨an,0,none⟩=some (.string aw)∧w'.cell? ⟨an,1,none⟩=some (.slice b6 ao.length b7)∧w'.cell? ⟨af,0,none⟩=some (.int .i64 b3)∧w'.cell? ⟨af,1,none⟩=some (.int .i64 ax)∧w'.cell? ⟨af,2,none⟩=some (.int .i64 ar)∧w'.cell? ⟨af,3,none⟩=some (.int .i64 b4))∧(Kd.R Kd.string 9 w' w.heap.size (fun _=>True) s_.1 bd)∧(Kd.R k86 86 w' w.heap.size (fun _=>True) s_.2.1 ap)∧(Kd.R k90 90 w' w.heap.size (fun _=>True) s_.2.2.1 aq)∧(Kd.R (Kd.int .i64) 3 w' w.heap.size (fun _=>True) (.slice bz b8.length ca) b8)∧(Kd.S k62 62 w' w.heap.size (fun k_=>some k_≠(s_.2.1:Value).ownBlock∧some k_≠(s_.2.2.1:Value).ownBlock∧k_≠s_.2.2.2) u621002 am)∧(w'.heap[an]?=some (.cells #[.string aw,.slice b6 ao.length b7] 36 (0,0)))∧(w'.heap[af]?=some (.cells #[.int .i64 b3,.int .i64 ax,.int .i64 ar,.int .i64 b4] 38 (0,0)))∧(w'.heap[b5]?=some (.cells #[.int .i64 ay,.slice none 0 0,.slice none 0 0] 31 (0,0)))∧(w'.heap[bg]?=some (.cells #[.int .i64 bx,.slice bz b8.length ca,u621002] 31 (0,0)))∧(w'.heap[s_.2.2.2]?=some (.cells #[.int .i64 0,.int .i64 0,.int .i64 0,.string (⟨#[]⟩:ByteArray),.slice none 0 0,.slice none 0 0] 62 (0,0)))∧(w.heap.size≤s_.2.2.2)∧(w.heap.size≤s_.2.2.2)∧(an≠s_.2.2.2)∧(s_.2.2.2≠an)∧(af≠s_.2.2.2)∧(s_.2.2.2≠af)∧(b5≠s_.2.2.2)∧(s_.2.2.2≠b5)∧(bg≠s_.2.2.2)∧(s_.2.2.2≠bg)∧(Below w.heap.size w w')) ?_ ?_
 rotate_left
 ·intro hCont
  refine two_ (i:=4) (j:=10) (Ni:=some 56) (Nj:=some 14) bq_270 bq_271 rfl rfl rfl rfl (two_of HT_.out kr_) (by decide) (by decide) (fun K hK=>?_) (fun K hK=>?_)
  ·skip
   refine goes_ Tryz.func65 kr_ rfl #[.agg #[.int .i64 b3,.int .i64 ax,.int .i64 ar,.int .i64 b4],.int .i64 a2,.int .i64 bf] (by rfl) rfl rfl tq_0 ?_
   with_reducible refine (impl_InodeAt.calls b3 ax ar b4 a2 bf cg _ en.out).mono ?_
   rintro e ev ⟨rfl,hb⟩
   refine ⟨_,rfl,?_⟩
   have z_:=p_ (Kd.R_below (raR_ a5) hb) <| p_ (Kd.S_below (raS_ HO_621002) hb) <| bw4_ (kb_ a6) (kb_ a7) (kb_ a9) (kb_ ab) th_ hb
   clear a5 HO_621002 a6 a7 a9 ab HB
   obtain ⟨a5,HO_621002,a6,a7,a9,ab,HB⟩:=z_
   (try clear hb)
   refine hK.out _ _ (bc2_ a6.out (bk4_ a7.out)) (fun hHeld=>?_)
   clear hK K
   refine nm_ (some 56) ?_
   refine two_ (i:=5) (j:=10) (Ni:=some 57) (Nj:=some 14) bq_272 bq_102 rfl rfl rfl rfl (two_of HT_.out kr_) (by decide) (by decide) (fun K hK=>?_) (fun K hK=>?_)
   ·skip
    refine goes_ Tryz.func62 kr_ rfl #[.agg #[.string aw,.slice b6 ao.length b7],.int .i64 cg,.int .i64 8] (by rfl) rfl rfl tq_0 ?_
    with_reducible refine (impl_readWords.calls k2 aw _ _ ao cg 8 bd _ ?side1 ?side2 e8.out).mono ?_
    (case side1=>exact tq_4)
    (case side2=>exact ch.out)
    rintro e eo ⟨v623,rfl,ho0,hb⟩
    refine ⟨_,rfl,?_⟩
    have z_:=p_ (Kd.R_below (raR_ a5) hb) <| p_ (Kd.S_below (raS_ HO_621002) hb) <| p_ (Kd.R_lower ho0 (below_size th_)) <| bw4_ (kb_ a6) (kb_ a7) (kb_ a9) (kb_ ab) th_ hb
    clear a5 HO_621002 a6 a7 a9 ab HB
    obtain ⟨a5,HO_621002,HO624,a6,a7,a9,ab,HB⟩:=z_
    (try clear hb)
    (try clear ho0)
    obtain ⟨dt,du,dv⟩:=Kd.R_slice HO624.out
    (first|subst dv|(injection dv with f1_ f2_ f3_;have f4_:=f1_.symm;have f5_:=f3_.symm;clear f1_ f2_ f3_;subst f4_;subst f5_))
    refine hK.out _ _ (bc2_ a6.out (bk4_ a7.out)) (fun hHeld=>?_)
    clear hK K
    refine nm_ (some 57) ?_
    refine two_ (i:=6) (j:=10) (Ni:=some 58) (Nj:=some 14) bq_100 bq_21 rfl rfl rfl rfl (two_of HT_.out kr_) (by decide) (by decide) (fun K hK=>?_) (fun K hK=>?_)
    ·skip
     refine goes_ Tryz.func64 kr_ rfl #[.slice dt bd.length du] (by rfl) rfl rfl tq_0 ?_
     with_reducible refine (impl_ReadInode.calls k2 _ _ bd az b0 b1 b2 ap aq cp _ ?side1 ?side2 e0.out).mono ?_
     (case side1=>exact tq_46)
     (case side2=>exact (Kd.R_reads' HO624.out).2.1)
     rintro e fp ⟨v630,v633,rfl,ho0,ho1,hb⟩
     refine ⟨_,rfl,?_⟩
     have z_:=p_ (Kd.R_below (raR_ a5) hb) <| p_ (Kd.S_mono (Kd.S_told (Kd.S_told (Kd.S_old (raS_ HO_621002) hb) (Kd.R_base ho0)) (Kd.R_base ho1)) (fun _ h_=>h_.1)) <| p_ (Kd.R_below (raR_ HO624) hb) <| p_ (Kd.R_lower ho0 (below_size th_)) <| p_ (Kd.R_lower ho1 (below_size th_)) <| bw4_ (kb_ a6) (kb_ a7) (kb_ a9) (kb_ ab) th_ hb
     clear a5 HO_621002 HO624 a6 a7 a9 ab HB
     obtain ⟨a5,HO_621002,HO624,au,av,a6,a7,a9,ab,HB⟩:=z_
     (try clear hb)
     (try clear ho0)
     (try clear ho1)
     refine hK.out _ _ (bc2_ a6.out (bk4_ a7.out)) (fun hHeld=>?_)
     clear hK K
     refine nm_ (some 58) ?_
     refine yr_ 7 51 bq_101 HT_ ?_
     refine yr_ 8 59 bq_31 HT_ ?_
     refine yr_ 9 60 bq_32 HT_ ?_
     refine one_ (i:=10) (N:=some 14) bq_0 rfl rfl (one_of HT_.out kr_) (by decide) (fun K hK=>?_)
     refine box_step ?hg (N:=14) ?hd (cs:=#[.int .i64 0,.int .i64 0,.int .i64 0,.string (⟨#[]⟩:ByteArray),.slice none 0 0,.slice none 0 0]) (t:=62) ?hr ?_;(case hd=>rfl);(case hg=>rfl);(case hr=>first|(go_simp;done)|(go_simp;rfl))
     intro a8 hg e9 hbox hb
     have z_:=p_ (Kd.R_below (raR_ a5) hb) <| p_ (Kd.S_below (Kd.S_elderB (raS_ HO_621002) a8 (Nat.le_of_eq hg.symm)) hb) <| p_ (Kd.R_below (raR_ HO624) hb) <| p_ (Kd.R_below (raR_ au) hb) <| p_ (Kd.R_below (raR_ av) hb) <| bx4_ (kb_ a6) (kb_ a7) (kb_ a9) (kb_ ab) th_ hb hbox hg
     clear a5 HO_621002 HO624 au av a6 a7 a9 ab HB
     obtain ⟨a5,HO_621002,HO624,au,av,a6,a7,a9,ab,HB,ac,bo,bp,ae,ai,aa,aj,ag,ah,ak,al⟩:=z_
     clear hb hbox hg
     refine hK.out _ _ (bc2_ a6.out (bk4_ a7.out)) (fun hHeld=>?_)
     clear hK K
     refine nm_ (some 14) ?_
     exact norm_ tq_10 (hCont (.slice dt bd.length du,v630,v633,a8) _ ⟨hHeld,(raR_ HO624),(raR_ au),(raR_ av),(raR_ a5),(by (with_reducible repeat (first|apply Kd.S_alloc|apply Kd.S_drewN|apply Kd.S_drew));exact Kd.S_mono HO_621002.out (fun _ hk=>⟨hk.1.1.2,⟨hk.1.2,hk.2⟩⟩)),(kb_ a6),(kb_ a7),(kb_ a9),(kb_ ab),(kb_ ac),bo.out,bp.out,ae.out,ai.out,aa.out,aj.out,ag.out,ah.out,ak.out,al.out,th_⟩)
    ·skip
     refine box_step ?hg (N:=14) ?hd (cs:=#[.int .i64 0,.int .i64 0,.int .i64 0,.string (⟨#[]⟩:ByteArray),.slice none 0 0,.slice none 0 0]) (t:=62) ?hr ?_;(case hd=>rfl);(case hg=>rfl);(case hr=>first|(go_simp;done)|(go_simp;rfl))
     intro a8 hg ep hbox hb
     have z_:=p_ (Kd.R_below (raR_ a5) hb) <| p_ (Kd.S_below (Kd.S_elderB (raS_ HO_621002) a8 (Nat.le_of_eq hg.symm)) hb) <| p_ (Kd.R_below (raR_ HO624) hb) <| bx4_ (kb_ a6) (kb_ a7) (kb_ a9) (kb_ ab) th_ hb hbox hg
     clear a5 HO_621002 HO624 a6 a7 a9 ab HB
     obtain ⟨a5,HO_621002,HO624,a6,a7,a9,ab,HB,ac,bo,bp,ae,ai,aa,aj,ag,ah,ak,al⟩:=z_
     clear hb hbox hg
     obtain ⟨cq,cr,ct⟩:=Kd.R_slice HO624.out
     (first|subst ct|(injection ct with f1_ f2_ f3_;have f4_:=f1_.symm;have f5_:=f3_.symm;clear f1_ f2_ f3_;subst f4_;subst f5_))
     refine hK.out _ _ (bc2_ a6.out (bk4_ a7.out)) (fun hHeld=>?_)
     clear hK K
     refine nm_ (some 14) ?_
     refine one_ (i:=6) (N:=some 58) bq_22 rfl rfl (one_of HT_.out kr_) (by decide) (fun K hK=>?_)
     refine goes_ Tryz.func64 kr_ rfl #[.slice cq bd.length cr] (by rfl) rfl rfl tq_0 ?_
     with_reducible refine (impl_ReadInode.calls k2 _ _ bd az b0 b1 b2 ap aq cp _ ?side1 ?side2 e0.out).mono ?_
     (case side1=>exact tq_46)
     (case side2=>exact (Kd.R_reads' HO624.out).2.1)
     rintro e e9 ⟨v630,v633,rfl,ho0,ho1,hb⟩
     refine ⟨_,rfl,?_⟩
     have z_:=p_ (Kd.R_below (raR_ a5) hb) <| p_ (Kd.S_mono (Kd.S_told (Kd.S_told (Kd.S_old (raS_ HO_621002) hb) (Kd.R_base ho0)) (Kd.R_base ho1)) (fun _ h_=>h_.1)) <| p_ (Kd.R_below (raR_ HO624) hb) <| p_ (Kd.R_lower ho0 (below_size th_)) <| p_ (Kd.R_lower ho1 (below_size th_)) <| bw5_ (kb_ a6) (kb_ a7) (kb_ a9) (kb_ ab) (kb_ ac) th_ hb
     clear a5 HO_621002 HO624 a6 a7 a9 ab ac HB
     obtain ⟨a5,HO_621002,HO624,au,av,a6,a7,a9,ab,ac,HB⟩:=z_
     (try clear hb)
     (try clear ho0)
     (try clear ho1)
     refine hK.out _ _ (bc2_ a6.out (bk4_ a7.out)) (fun hHeld=>?_)
     clear hK K
     refine nm_ (some 58) ?_
     refine yr_ 7 51 bq_23 HT_ ?_
     refine yr_ 8 59 bq_24 HT_ ?_
     refine yr_ 9 60 bq_0 HT_ ?_
     exact norm_ tq_10 (hCont (.slice cq bd.length cr,v630,v633,a8) _ ⟨hHeld,(raR_ HO624),(raR_ au),(raR_ av),(raR_ a5),tq_66,(kb_ a6),(kb_ a7),(kb_ a9),(kb_ ab),(kb_ ac),bo.out,bp.out,ae.out,ai.out,aa.out,aj.out,ag.out,ah.out,ak.out,al.out,th_⟩)
   ·skip
    refine box_step ?hg (N:=14) ?hd (cs:=#[.int .i64 0,.int .i64 0,.int .i64 0,.string (⟨#[]⟩:ByteArray),.slice none 0 0,.slice none 0 0]) (t:=62) ?hr ?_;(case hd=>rfl);(case hg=>rfl);(case hr=>first|(go_simp;done)|(go_simp;rfl))
    intro a8 hg eo hbox hb
    have z_:=p_ (Kd.R_below (raR_ a5) hb) <| p_ (Kd.S_below (Kd.S_elderB (raS_ HO_621002) a8 (Nat.le_of_eq hg.symm)) hb) <| bx4_ (kb_ a6) (kb_ a7) (kb_ a9) (kb_ ab) th_ hb hbox hg
    clear a5 HO_621002 a6 a7 a9 ab HB
    obtain ⟨a5,HO_621002,a6,a7,a9,ab,HB,ac,bo,bp,ae,ai,aa,aj,ag,ah,ak,al⟩:=z_
    clear hb hbox hg
    refine hK.out _ _ (bc2_ a6.out (bk4_ a7.out)) (fun hHeld=>?_)
    clear hK K
    refine nm_ (some 14) ?_
    refine one_ (i:=5) (N:=some 57) bq_21 rfl rfl (one_of HT_.out kr_) (by decide) (fun K hK=>?_)
    refine goes_ Tryz.func62 kr_ rfl #[.agg #[.string aw,.slice b6 ao.length b7],.int .i64 cg,.int .i64 8] (by rfl) rfl rfl tq_0 ?_
    with_reducible refine (impl_readWords.calls k2 aw _ _ ao cg 8 bd _ ?side1 ?side2 e8.out).mono ?_
    (case side1=>exact tq_4)
    (case side2=>exact ch.out)
    rintro e ep ⟨v623,rfl,ho0,hb⟩
    refine ⟨_,rfl,?_⟩
    have z_:=p_ (Kd.R_below (raR_ a5) hb) <| p_ (Kd.S_below (raS_ HO_621002) hb) <| p_ (Kd.R_lower ho0 (below_size th_)) <| bw5_ (kb_ a6) (kb_ a7) (kb_ a9) (kb_ ab) (kb_ ac) th_ hb
    clear a5 HO_621002 a6 a7 a9 ab ac HB
    obtain ⟨a5,HO_621002,HO624,a6,a7,a9,ab,ac,HB⟩:=z_
    (try clear hb)
    (try clear ho0)
    obtain ⟨cq,cr,ct⟩:=Kd.R_slice HO624.out
    (first|subst ct|(injection ct with f1_ f2_ f3_;have f4_:=f1_.symm;have f5_:=f3_.symm;clear f1_ f2_ f3_;subst f4_;subst f5_))
    refine hK.out _ _ (bc2_ a6.out (bk4_ a7.out)) (fun hHeld=>?_)
    clear hK K
    refine nm_ (some 57) ?_
    refine one_ (i:=6) (N:=some 58) bq_22 rfl rfl (one_of HT_.out kr_) (by decide) (fun K hK=>?_)
    refine goes_ Tryz.func64 kr_ rfl #[.slice cq bd.length cr] (by rfl) rfl rfl tq_0 ?_
    with_reducible refine (impl_ReadInode.calls k2 _ _ bd az b0 b1 b2 ap aq cp _ ?side1 ?side2 e0.out).mono ?_
    (case side1=>exact tq_46)
    (case side2=>exact (Kd.R_reads' HO624.out).2.1)
    rintro e e9 ⟨v630,v633,rfl,ho0,ho1,hb⟩
    refine ⟨_,rfl,?_⟩
    have z_:=p_ (Kd.R_below (raR_ a5) hb) <| p_ (Kd.S_mono (Kd.S_told (Kd.S_told (Kd.S_old (raS_ HO_621002) hb) (Kd.R_base ho0)) (Kd.R_base ho1)) (fun _ h_=>h_.1)) <| p_ (Kd.R_below (raR_ HO624) hb) <| p_ (Kd.R_lower ho0 (below_size th_)) <| p_ (Kd.R_lower ho1 (below_size th_)) <| bw5_ (kb_ a6) (kb_ a7) (kb_ a9) (kb_ ab) (kb_ ac) th_ hb
    clear a5 HO_621002 HO624 a6 a7 a9 ab ac HB
    obtain ⟨a5,HO_621002,HO624,au,av,a6,a7,a9,ab,ac,HB⟩:=z_
    (try clear hb)
    (try clear ho0)
    (try clear ho1)
    refine hK.out _ _ (bc2_ a6.out (bk4_ a7.out)) (fun hHeld=>?_)
    clear hK K
    refine nm_ (some 58) ?_
    refine yr_ 7 51 bq_23 HT_ ?_
    refine yr_ 8 59 bq_24 HT_ ?_
    refine yr_ 9 60 bq_0 HT_ ?_
    exact norm_ tq_10 (hCont (.slice cq bd.length cr,v630,v633,a8) _ ⟨hHeld,(raR_ HO624),(raR_ au),(raR_ av),(raR_ a5),tq_66,(kb_ a6),(kb_ a7),(kb_ a9),(kb_ ab),(kb_ ac),bo.out,bp.out,ae.out,ai.out,aa.out,aj.out,ag.out,ah.out,ak.out,al.out,th_⟩)
  ·skip
   refine box_step ?hg (N:=14) ?hd (cs:=#[.int .i64 0,.int .i64 0,.int .i64 0,.string (⟨#[]⟩:ByteArray),.slice none 0 0,.slice none 0 0]) (t:=62) ?hr ?_;(case hd=>rfl);(case hg=>rfl);(case hr=>first|(go_simp;done)|(go_simp;rfl))
   intro a8 hg ev hbox hb
   have z_:=p_ (Kd.R_below (raR_ a5) hb) <| p_ (Kd.S_below (Kd.S_elderB (raS_ HO_621002) a8 (Nat.le_of_eq hg.symm)) hb) <| bx4_ (kb_ a6) (kb_ a7) (kb_ a9) (kb_ ab) th_ hb hbox hg
   clear a5 HO_621002 a6 a7 a9 ab HB
   obtain ⟨a5,HO_621002,a6,a7,a9,ab,HB,ac,bo,bp,ae,ai,aa,aj,ag,ah,ak,al⟩:=z_
   clear hb hbox hg
   refine hK.out _ _ (bc2_ a6.out (bk4_ a7.out)) (fun hHeld=>?_)
   clear hK K
   refine nm_ (some 14) ?_
   refine one_ (i:=4) (N:=some 56) bq_102 rfl rfl (one_of HT_.out kr_) (by decide) (fun K hK=>?_)
   refine goes_ Tryz.func65 kr_ rfl #[.agg #[.int .i64 b3,.int .i64 ax,.int .i64 ar,.int .i64 b4],.int .i64 a2,.int .i64 bf] (by rfl) rfl rfl tq_0 ?_
   with_reducible refine (impl_InodeAt.calls b3 ax ar b4 a2 bf cg _ en.out).mono ?_
   rintro e eo ⟨rfl,hb⟩
   refine ⟨_,rfl,?_⟩
   have z_:=p_ (Kd.R_below (raR_ a5) hb) <| p_ (Kd.S_below (raS_ HO_621002) hb) <| bw5_ (kb_ a6) (kb_ a7) (kb_ a9) (kb_ ab) (kb_ ac) th_ hb
   clear a5 HO_621002 a6 a7 a9 ab ac HB
   obtain ⟨a5,HO_621002,a6,a7,a9,ab,ac,HB⟩:=z_
   (try clear hb)
   refine hK.out _ _ (bc2_ a6.out (bk4_ a7.out)) (fun hHeld=>?_)
   clear hK K
   refine nm_ (some 56) ?_
   refine one_ (i:=5) (N:=some 57) bq_21 rfl rfl (one_of HT_.out kr_) (by decide) (fun K hK=>?_)
   refine goes_ Tryz.func62 kr_ rfl #[.agg #[.string aw,.slice b6 ao.length b7],.int .i64 cg,.int .i64 8] (by rfl) rfl rfl tq_0 ?_
   with_reducible refine (impl_readWords.calls k2 aw _ _ ao cg 8 bd _ ?side1 ?side2 e8.out).mono ?_
   (case side1=>exact tq_4)
   (case side2=>exact ch.out)
   rintro e ep ⟨v623,rfl,ho0,hb⟩
   refine ⟨_,rfl,?_⟩
   have z_:=p_ (Kd.R_below (raR_ a5) hb) <| p_ (Kd.S_below (raS_ HO_621002) hb) <| p_ (Kd.R_lower ho0 (below_size th_)) <| bw5_ (kb_ a6) (kb_ a7) (kb_ a9) (kb_ ab) (kb_ ac) th_ hb
   clear a5 HO_621002 a6 a7 a9 ab ac HB
   obtain ⟨a5,HO_621002,HO624,a6,a7,a9,ab,ac,HB⟩:=z_
   (try clear hb)
   (try clear ho0)
   obtain ⟨cq,cr,ct⟩:=Kd.R_slice HO624.out
   (first|subst ct|(injection ct with f1_ f2_ f3_;have f4_:=f1_.symm;have f5_:=f3_.symm;clear f1_ f2_ f3_;subst f4_;subst f5_))
   refine hK.out _ _ (bc2_ a6.out (bk4_ a7.out)) (fun hHeld=>?_)
   clear hK K
   refine nm_ (some 57) ?_
   refine one_ (i:=6) (N:=some 58) bq_22 rfl rfl (one_of HT_.out kr_) (by decide) (fun K hK=>?_)
   refine goes_ Tryz.func64 kr_ rfl #[.slice cq bd.length cr] (by rfl) rfl rfl tq_0 ?_
   with_reducible refine (impl_ReadInode.calls k2 _ _ bd az b0 b1 b2 ap aq cp _ ?side1 ?side2 e0.out).mono ?_
   (case side1=>exact tq_46)
   (case side2=>exact (Kd.R_reads' HO624.out).2.1)
   rintro e e9 ⟨v630,v633,rfl,ho0,ho1,hb⟩
   refine ⟨_,rfl,?_⟩
   have z_:=p_ (Kd.R_below (raR_ a5) hb) <| p_ (Kd.S_mono (Kd.S_told (Kd.S_told (Kd.S_old (raS_ HO_621002) hb) (Kd.R_base ho0)) (Kd.R_base ho1)) (fun _ h_=>h_.1)) <| p_ (Kd.R_below (raR_ HO624) hb) <| p_ (Kd.R_lower ho0 (below_size th_)) <| p_ (Kd.R_lower ho1 (below_size th_)) <| bw5_ (kb_ a6) (kb_ a7) (kb_ a9) (kb_ ab) (kb_ ac) th_ hb
   clear a5 HO_621002 HO624 a6 a7 a9 ab ac HB
   obtain ⟨a5,HO_621002,HO624,au,av,a6,a7,a9,ab,ac,HB⟩:=z_
   (try clear hb)
   (try clear ho0)
   (try clear ho1)
   refine hK.out _ _ (bc2_ a6.out (bk4_ a7.out)) (fun hHeld=>?_)
   clear hK K
   refine nm_ (some 58) ?_
   refine yr_ 7 51 bq_23 HT_ ?_
   refine yr_ 8 59 bq_24 HT_ ?_
   refine yr_ 9 60 bq_0 HT_ ?_
   exact norm_ tq_10 (hCont (.slice cq bd.length cr,v630,v633,a8) _ ⟨hHeld,(raR_ HO624),(raR_ au),(raR_ av),(raR_ a5),tq_66,(kb_ a6),(kb_ a7),(kb_ a9),(kb_ ab),(kb_ ac),bo.out,bp.out,ae.out,ai.out,aa.out,aj.out,ag.out,ah.out,ak.out,al.out,th_⟩)
 rintro ⟨v623,v630,v633,a8⟩ be ⟨hS_,h0_,h1_,h2_,h3_,h4_,h5_,h6_,h7_,h8_,h9_,h10_,h11_,h12_,h13_,h14_,h15_,h16_,h17_,h18_,h19_,h20_⟩
 have z_:=q_ (⟨h0_⟩:Aside0 (Kd.R Kd.string 9 be w.heap.size (fun _=>True) v623 bd)) <| q_ (⟨h1_⟩:Aside0 (Kd.R k86 86 be w.heap.size (fun _=>True) v630 ap)) <| q_ (⟨h2_⟩:Aside0 (Kd.R k90 90 be w.heap.size (fun _=>True) v633 aq)) <| q_ (⟨h3_⟩:Aside0 (Kd.R (Kd.int .i64) 3 be w.heap.size (fun _=>True) (.slice bz b8.length ca) b8)) <| q_ (⟨h4_⟩:Aside0 (Kd.S k62 62 be w.heap.size (fun k_=>some k_≠(v630:Value).ownBlock∧some k_≠(v633:Value).ownBlock∧k_≠a8) u621002 am)) <| q_ (⟨h5_⟩:Aside0 (be.heap[an]?=some (.cells #[.string aw,.slice b6 ao.length b7] 36 (0,0)))) <| q_ (⟨h6_⟩:Aside0 (be.heap[af]?=some (.cells #[.int .i64 b3,.int .i64 ax,.int .i64 ar,.int .i64 b4] 38 (0,0)))) <| q_ (⟨h7_⟩:Aside0 (be.heap[b5]?=some (.cells #[.int .i64 ay,.slice none 0 0,.slice none 0 0] 31 (0,0)))) <| q_ (⟨h8_⟩:Aside0 (be.heap[bg]?=some (.cells #[.int .i64 bx,.slice bz b8.length ca,u621002] 31 (0,0)))) <| q_ (⟨h9_⟩:Aside0 (be.heap[a8]?=some (.cells #[.int .i64 0,.int .i64 0,.int .i64 0,.string (⟨#[]⟩:ByteArray),.slice none 0 0,.slice none 0 0] 62 (0,0)))) <| q_ (⟨h10_⟩:Aside0 (w.heap.size≤a8)) <| q_ (⟨h11_⟩:Aside0 (w.heap.size≤a8)) <| q_ (⟨h12_⟩:Aside0 (an≠a8)) <| q_ (⟨h13_⟩:Aside0 (a8≠an)) <| q_ (⟨h14_⟩:Aside0 (af≠a8)) <| q_ (⟨h15_⟩:Aside0 (a8≠af)) <| q_ (⟨h16_⟩:Aside0 (b5≠a8)) <| q_ (⟨h17_⟩:Aside0 (a8≠b5)) <| q_ (⟨h18_⟩:Aside0 (bg≠a8)) <| q_ (⟨h19_⟩:Aside0 (a8≠bg)) <| (⟨h20_⟩:Aside0 (Below w.heap.size w be))
 clear a5 HO_621002 a6 a7 a9 ab HB h0_ h1_ h2_ h3_ h4_ h5_ h6_ h7_ h8_ h9_ h10_ h11_ h12_ h13_ h14_ h15_ h16_ h17_ h18_ h19_ h20_
 obtain ⟨HO624,au,av,a5,HO_621002,a6,a7,a9,ab,ac,bo,bp,ae,ai,aa,aj,ag,ah,ak,al,HB⟩:=z_
 have hHeld:be.cell? ⟨an,0,none⟩=some (.string aw)∧be.cell? ⟨an,1,none⟩=some (.slice b6 ao.length b7)∧be.cell? ⟨af,0,none⟩=some (.int .i64 b3)∧be.cell? ⟨af,1,none⟩=some (.int .i64 ax)∧be.cell? ⟨af,2,none⟩=some (.int .i64 ar)∧be.cell? ⟨af,3,none⟩=some (.int .i64 b4):=hS_
 obtain ⟨b9,ba,dw⟩:=Kd.R_slice au.out
 (first|subst dw|(injection dw with f1_ f2_ f3_;have f4_:=f1_.symm;have f5_:=f3_.symm;clear f1_ f2_ f3_;subst f4_;subst f5_))
 obtain ⟨bb,bc,dx⟩:=Kd.R_slice av.out
 (first|subst dx|(injection dx with f1_ f2_ f3_;have f4_:=f1_.symm;have f5_:=f3_.symm;clear f1_ f2_ f3_;subst f4_;subst f5_))
 refine norm_ (a':=?_) ?_ ?_
 rotate_left
 ·simp only [putAll,Act.put,List.setIfInBounds_toArray,List.set_cons_zero,List.set_cons_succ]
  rfl
 refine one_ (i:=11) (N:=none) bq_33 rfl rfl (one_of HT_.out kr_) (by decide) (fun K hK=>?_)
 have hs49:be.cell? ⟨a8,0,none⟩=some (.int .i64 0):=(blk_cell ac.out 0).trans rfl
 have hfs49:=blk_frozen ac.out 0
 obtain ⟨cu,cv,bv,cw,cx,cy,bw,cz⟩:=an8_ ae aa ag ak ai aj ah al
 have hs50:be.cell? ⟨a8,1,none⟩=some (.int .i64 0):=(blk_cell ac.out 1).trans rfl
 have hfs50:=blk_frozen ac.out 1
 have hs51:be.cell? ⟨a8,2,none⟩=some (.int .i64 0):=(blk_cell ac.out 2).trans rfl
 have hfs51:=blk_frozen ac.out 2
 have hs52:be.cell? ⟨a8,3,none⟩=some (.string (⟨#[]⟩:ByteArray)):=(blk_cell ac.out 3).trans rfl
 have hfs52:=blk_frozen ac.out 3
 have hs54:be.cell? ⟨a8,4,none⟩=some (.slice none 0 0):=(blk_cell ac.out 4).trans rfl
 have hfs54:=blk_frozen ac.out 4
 have hs56:be.cell? ⟨a8,5,none⟩=some (.slice none 0 0):=(blk_cell ac.out 5).trans rfl
 have hfs56:=blk_frozen ac.out 5
 refine skip_ (w1:=?_) (by rfl) rfl ?_ ?_
 rotate_left
 ·go_simp
  rfl
 refine hK.out _ _ ⟨(cf_ ae (cf_ ae (cf_ ae (cf_ ae (cf_ ae (cf_ ae hHeld.1)))))),(cf_ ae (cf_ ae (cf_ ae (cf_ ae (cf_ ae (cf_ ae hHeld.2.1)))))),(cf_ aa (cf_ aa (cf_ aa (cf_ aa (cf_ aa (cf_ aa hHeld.2.2.1)))))),(cf_ aa (cf_ aa (cf_ aa (cf_ aa (cf_ aa (cf_ aa hHeld.2.2.2.1)))))),(cf_ aa (cf_ aa (cf_ aa (cf_ aa (cf_ aa (cf_ aa hHeld.2.2.2.2.1)))))),(cf_ aa (cf_ aa (cf_ aa (cf_ aa (cf_ aa (cf_ aa hHeld.2.2.2.2.2))))))⟩ (fun hHeld=>?_)
 clear hK K
 refine yr_ 12 15 bq_34 HT_ ?_
 refine done_ (done_of HT_.out kr_) ?_
 have n0_:Aside0 (Kd.R (Kd.int .i64) 3 ((((((be.setCell ⟨a8,0,none⟩ (.int .i64 az)).setCell ⟨a8,1,none⟩ (.int .i64 b0)).setCell ⟨a8,2,none⟩ (.int .i64 b1)).setCell ⟨a8,3,none⟩ (.string b2)).setCell ⟨a8,4,none⟩ (.slice b9 ap.length ba)).setCell ⟨a8,5,none⟩ (.slice bb aq.length bc)) w.heap.size (fun _=>True) (.slice bz b8.length ca) b8):=⟨(by (with_reducible repeat (first|apply Kd.R_alloc|apply Kd.R_drewN|apply Kd.R_drew));exact Kd.R_mono (rR_ (rR_ (rR_ (rR_ (rR_ (rR_ (Kd.R_types a5.out ac.out (by decide)))))))) (fun _ hk=>trivial))⟩
 have n1_:Aside0 (Kd.S k62 62 ((((((be.setCell ⟨a8,0,none⟩ (.int .i64 az)).setCell ⟨a8,1,none⟩ (.int .i64 b0)).setCell ⟨a8,2,none⟩ (.int .i64 b1)).setCell ⟨a8,3,none⟩ (.string b2)).setCell ⟨a8,4,none⟩ (.slice b9 ap.length ba)).setCell ⟨a8,5,none⟩ (.slice bb aq.length bc)) w.heap.size (fun k_=>some k_≠(.slice b9 ap.length ba:Value).ownBlock∧some k_≠(.slice bb aq.length bc:Value).ownBlock∧k_≠a8) u621002 am):=⟨(by (with_reducible repeat (first|apply Kd.S_alloc|apply Kd.S_drewN|apply Kd.S_drew));exact Kd.S_mono (rS_ (rS_ (rS_ (rS_ (rS_ (rS_ (Kd.S_mono HO_621002.out (fun k_ hk=>(⟨hk,hk.2.2⟩:_∧k_≠a8))))))))) (fun _ hk=>⟨hk.1.1,⟨hk.1.2.1,hk.1.2.2⟩⟩))⟩
 have n2_:Aside0 (Kd.R Kd.string 9 ((((((be.setCell ⟨a8,0,none⟩ (.int .i64 az)).setCell ⟨a8,1,none⟩ (.int .i64 b0)).setCell ⟨a8,2,none⟩ (.int .i64 b1)).setCell ⟨a8,3,none⟩ (.string b2)).setCell ⟨a8,4,none⟩ (.slice b9 ap.length ba)).setCell ⟨a8,5,none⟩ (.slice bb aq.length bc)) w.heap.size (fun _=>True) v623 bd):=⟨(by (with_reducible repeat (first|apply Kd.R_alloc|apply Kd.R_drewN|apply Kd.R_drew));exact Kd.R_mono (rR_ (rR_ (rR_ (rR_ (rR_ (rR_ (Kd.R_types HO624.out ac.out (by decide)))))))) (fun _ hk=>trivial))⟩
 have n3_:Aside0 (Kd.R k86 86 ((((((be.setCell ⟨a8,0,none⟩ (.int .i64 az)).setCell ⟨a8,1,none⟩ (.int .i64 b0)).setCell ⟨a8,2,none⟩ (.int .i64 b1)).setCell ⟨a8,3,none⟩ (.string b2)).setCell ⟨a8,4,none⟩ (.slice b9 ap.length ba)).setCell ⟨a8,5,none⟩ (.slice bb aq.length bc)) w.heap.size (fun _=>True) (.slice b9 ap.length ba) ap):=⟨(by (with_reducible repeat (first|apply Kd.R_alloc|apply Kd.R_drewN|apply Kd.R_drew));exact Kd.R_mono (rR_ (rR_ (rR_ (rR_ (rR_ (rR_ (Kd.R_types au.out ac.out (by decide)))))))) (fun _ hk=>trivial))⟩
 have n4_:Aside0 (Kd.R k90 90 ((((((be.setCell ⟨a8,0,none⟩ (.int .i64 az)).setCell ⟨a8,1,none⟩ (.int .i64 b0)).setCell ⟨a8,2,none⟩ (.int .i64 b1)).setCell ⟨a8,3,none⟩ (.string b2)).setCell ⟨a8,4,none⟩ (.slice b9 ap.length ba)).setCell ⟨a8,5,none⟩ (.slice bb aq.length bc)) w.heap.size (fun _=>True) (.slice bb aq.length bc) aq):=⟨(by (with_reducible repeat (first|apply Kd.R_alloc|apply Kd.R_drewN|apply Kd.R_drew));exact Kd.R_mono (rR_ (rR_ (rR_ (rR_ (rR_ (rR_ (Kd.R_types av.out ac.out (by decide)))))))) (fun _ hk=>trivial))⟩
 have n5_:Aside0 (((((((be.setCell ⟨a8,0,none⟩ (.int .i64 az)).setCell ⟨a8,1,none⟩ (.int .i64 b0)).setCell ⟨a8,2,none⟩ (.int .i64 b1)).setCell ⟨a8,3,none⟩ (.string b2)).setCell ⟨a8,4,none⟩ (.slice b9 ap.length ba)).setCell ⟨a8,5,none⟩ (.slice bb aq.length bc)).heap[an]?=some (.cells #[.string aw,.slice b6 ao.length b7] 36 (0,0))):=⟨tb_⟩
 have n6_:Aside0 (((((((be.setCell ⟨a8,0,none⟩ (.int .i64 az)).setCell ⟨a8,1,none⟩ (.int .i64 b0)).setCell ⟨a8,2,none⟩ (.int .i64 b1)).setCell ⟨a8,3,none⟩ (.string b2)).setCell ⟨a8,4,none⟩ (.slice b9 ap.length ba)).setCell ⟨a8,5,none⟩ (.slice bb aq.length bc)).heap[af]?=some (.cells #[.int .i64 b3,.int .i64 ax,.int .i64 ar,.int .i64 b4] 38 (0,0))):=⟨tb_⟩
 have n7_:Aside0 (((((((be.setCell ⟨a8,0,none⟩ (.int .i64 az)).setCell ⟨a8,1,none⟩ (.int .i64 b0)).setCell ⟨a8,2,none⟩ (.int .i64 b1)).setCell ⟨a8,3,none⟩ (.string b2)).setCell ⟨a8,4,none⟩ (.slice b9 ap.length ba)).setCell ⟨a8,5,none⟩ (.slice bb aq.length bc)).heap[b5]?=some (.cells #[.int .i64 ay,.slice none 0 0,.slice none 0 0] 31 (0,0))):=⟨tb_⟩
 have n8_:Aside0 (((((((be.setCell ⟨a8,0,none⟩ (.int .i64 az)).setCell ⟨a8,1,none⟩ (.int .i64 b0)).setCell ⟨a8,2,none⟩ (.int .i64 b1)).setCell ⟨a8,3,none⟩ (.string b2)).setCell ⟨a8,4,none⟩ (.slice b9 ap.length ba)).setCell ⟨a8,5,none⟩ (.slice bb aq.length bc)).heap[bg]?=some (.cells #[.int .i64 bx,.slice bz b8.length ca,u621002] 31 (0,0))):=⟨tb_⟩
 have n9_:Aside0 (((((((be.setCell ⟨a8,0,none⟩ (.int .i64 az)).setCell ⟨a8,1,none⟩ (.int .i64 b0)).setCell ⟨a8,2,none⟩ (.int .i64 b1)).setCell ⟨a8,3,none⟩ (.string b2)).setCell ⟨a8,4,none⟩ (.slice b9 ap.length ba)).setCell ⟨a8,5,none⟩ (.slice bb aq.length bc)).heap[a8]?=some (.cells #[.int .i64 az,.int .i64 b0,.int .i64 b1,.string b2,.slice b9 ap.length ba,.slice bb aq.length bc] 62 (0,0))):=⟨tb_⟩
 have n10_:Aside0 (Below w.heap.size w ((((((be.setCell ⟨a8,0,none⟩ (.int .i64 az)).setCell ⟨a8,1,none⟩ (.int .i64 b0)).setCell ⟨a8,2,none⟩ (.int .i64 b1)).setCell ⟨a8,3,none⟩ (.string b2)).setCell ⟨a8,4,none⟩ (.slice b9 ap.length ba)).setCell ⟨a8,5,none⟩ (.slice bb aq.length bc))):=⟨th_⟩
 (try clear a5)
 (try clear HO_621002)
 (try clear HO624)
 (try clear au)
 (try clear av)
 (try clear a6)
 (try clear a7)
 (try clear a9)
 (try clear ab)
 (try clear ac)
 (try clear HB)
 generalize ((((((be.setCell ⟨a8,0,none⟩ (.int .i64 az)).setCell ⟨a8,1,none⟩ (.int .i64 b0)).setCell ⟨a8,2,none⟩ (.int .i64 b1)).setCell ⟨a8,3,none⟩ (.string b2)).setCell ⟨a8,4,none⟩ (.slice b9 ap.length ba)).setCell ⟨a8,5,none⟩ (.slice bb aq.length bc))=fq at n0_ n1_ n2_ n3_ n4_ n5_ n6_ n7_ n8_ n9_ n10_ ⊢
 have a5:=n0_
 have HO_621002:=n1_
 have HO624:=n2_
 have au:=n3_
 have av:=n4_
 have a6:=n5_
 have a7:=n6_
 have a9:=n7_
 have ab:=n8_
 have ac:=n9_
 have HB:=n10_
 clear n0_ n1_ n2_ n3_ n4_ n5_ n6_ n7_ n8_ n9_ n10_
 go_upto_if 62 with (fail)
 (try clear d4 cm cu d3 br co cv bq bu bv cl cn bs cw cx cy bw cz)
 (try clear d6)
 (try clear d7)
 (try clear d6)
 (try clear d7)
 have H:=dr.out
 clear dr
 by_cases e1:cp=true
 rotate_left
 ·replace e1:=Bool.eq_false_iff.mpr e1
  subst e1
  rw [if_neg nf_] at H
  simp only [Option.some.injEq,Prod.mk.injEq] at H
  obtain ⟨rfl,rfl,rfl,rfl⟩:=H
  obtain ⟨cj,ck,bq,br,bu,bs,bv,bw⟩:=an8_ bi bh bl bj bm bn ag ah
  have ew:=bb3_ a9.out
  go_wp2
  refine bodyPost_ret (results_ct rfl _ _ b5 31 #[.int .i64 0,.slice none 0 0,.slice none 0 0] (0,0) _ rfl tb_ Tryz.underlying31 rfl kr_) rfl ?_
  exact ⟨_,_,tq_1,tq_5,tq_13,th_⟩
 subst e1
 rw [if_pos rfl] at H
 obtain ⟨eq,H⟩:=fc_ H
 have dy:=m_ eq
 clear eq
 obtain ⟨dh,d5⟩:∃ y_:List (S62),y_=(am++[(⟨az,b0,b1,b2,ap,aq⟩:S62)]):=⟨_,rfl⟩
 replace H:(impl_readPart.l0 k2 a2 ar (wrap64 (bf+1)) aw ao b3 ax ar b4 bx b8 dh)=some (r1,r2,r3,r4):=rh_ d5 H
 have dz:=m_ d5
 clear d5
 have H':=m_ H
 clear H
 obtain ⟨cl,cm,cn,co,bs,bu,cw,cz⟩:=an8_ cd cc cf ce bn bm ak al
 have ex:=bb3_ ab.out
 obtain ⟨cx,cu,cy,cv,bw,bv⟩:=an6_ ai ae aj aa ah ag
 have ey:=bb6_ ac.out
 go_wp2_with (first|((with_reducible refine gate_builtin (b:=.append) (xs:=#[.tmp 65,.tmp 67]) rfl ?_);at_builtin;refine Kd.S_append k62 (w0:=w) w.heap.size rfl (.tmp 65) (.tmp 67) 29 62 (.agg #[(.int .i64 0),(.int .i64 0),(.int .i64 0),(.string ⟨#[]⟩),(.slice none 0 0),(.slice none 0 0)]) 88 rfl Tryz.underlying29 info62 rfl (by decide) (by omega) u621002 am (⟨az,b0,b1,b2,ap,aq⟩:S62) [.int .i64 az,.int .i64 b0,.int .i64 b1,.string b2,.slice b9 ap.length ba,.slice bb aq.length bc] (fun k_=>k_≠a8) (fun k_=>some k_=(.slice b9 ap.length ba:Value).ownBlock∨some k_=(.slice bb aq.length bc:Value).ownBlock) rfl rfl ?aP (fun k_ hk_=>hk_.elim (fun h_=>((Kd.R_mono (ok':=fun k_=>((fun k_=>k_≠a8)) k_∧some k_≠(u621002:Value).ownBlock) (Kd.R_types (Kd.R_apart' (au.out) (Kd.S_typed HO_621002.out) (by decide)) ac.out (by decide)) (fun k_ hk=>⟨hk.2,hk.1.2⟩))).1 k_ h_.symm) (fun h_=>((Kd.R_mono (ok':=fun k_=>((fun k_=>k_≠a8)) k_∧some k_≠(u621002:Value).ownBlock) (Kd.R_types (Kd.R_apart' (av.out) (Kd.S_typed HO_621002.out) (by decide)) ac.out (by decide)) (fun k_ hk=>⟨hk.2,hk.1.2⟩))).1 k_ h_.symm)) ?aF ?aO ?aB ?aS ?aL ?_;(case aP=>exact k62_mkM _ _ _ (⟨az,b0,b1,b2,ap,aq⟩:S62) (Kd.R_mono (Kd.R_tight rfl (Kd.R_mono (ok':=fun k_=>((fun k_=>k_≠a8)) k_∧some k_≠(u621002:Value).ownBlock) (Kd.R_types (Kd.R_apart' (au.out) (Kd.S_typed HO_621002.out) (by decide)) ac.out (by decide)) (fun k_ hk=>⟨hk.2,hk.1.2⟩))) (fun _ h_=>Or.inl h_)) (Kd.R_mono (Kd.R_tight rfl (Kd.R_mono (ok':=fun k_=>((fun k_=>k_≠a8)) k_∧some k_≠(u621002:Value).ownBlock) (Kd.R_types (Kd.R_apart' (av.out) (Kd.S_typed HO_621002.out) (by decide)) ac.out (by decide)) (fun k_ hk=>⟨hk.2,hk.1.2⟩))) (fun _ h_=>Or.inr (h_))));(case aB=>exact th_);(case aF=>exact (fun k_ hk=>Kd.freshB (g:=a8) (o:=.cells #[.int .i64 az,.int .i64 b0,.int .i64 b1,.string b2,.slice b9 ap.length ba,.slice bb aq.length bc] 62 (0,0)) (kb_ ac) k_ hk));(case aO=>exact (by (with_reducible repeat (first|apply Kd.S_alloc|apply Kd.S_drewN|apply Kd.S_drew));exact Kd.S_mono HO_621002.out (fun k_ hk=>⟨hk.2.2,fun e_=>e_.elim (fun h_=>hk.1 h_) (fun h_=>hk.2.1 h_)⟩)));(case aS=>exact (below_size th_));(case aL=>have:=dy.out;omega);intro v638 fr ho hb hg hat;rw [← dz.out] at ho;have z_:=p_ (Kd.R_over' (raR_ a5) (Kd.S_typed (raS_ HO_621002)) (by decide) hg) <| p_ (blk_grown (g:=an) (o:=.cells #[.string aw,.slice b6 ao.length b7] 36 (0,0)) (kb_ a6) hg (Kd.S_ne HO_621002.out a6.out (by decide))) <| p_ (blk_grown (g:=af) (o:=.cells #[.int .i64 b3,.int .i64 ax,.int .i64 ar,.int .i64 b4] 38 (0,0)) (kb_ a7) hg (Kd.S_ne HO_621002.out a7.out (by decide))) <| p_ (blk_grown (g:=b5) (o:=.cells #[.int .i64 ay,.slice none 0 0,.slice none 0 0] 31 (0,0)) (kb_ a9) hg (Kd.S_ne HO_621002.out a9.out (by decide))) <| p_ (blk_grown (g:=bg) (o:=.cells #[.int .i64 bx,.slice bz b8.length ca,u621002] 31 (0,0)) (kb_ ab) hg (Kd.S_ne HO_621002.out ab.out (by decide))) <| p_ (Kd.R_over' (raR_ HO624) (Kd.S_typed (raS_ HO_621002)) (by decide) hg) <| p_ (blk_grown (g:=a8) (o:=.cells #[.int .i64 az,.int .i64 b0,.int .i64 b1,.string b2,.slice b9 ap.length ba,.slice bb aq.length bc] 62 (0,0)) (kb_ ac) hg (Kd.S_away HO_621002.out (fun _ hk=>hk.2.2))) <| p_ (hb) <| a_ (ho);clear a5 a6 a7 a9 ab HO624 ac HB HO_621002 au av;obtain ⟨a5,a6,a7,a9,ab,HO624,ac,HB,db⟩:=z_;clear ho hb hg hat;obtain ⟨ea,eb,ec⟩:=Kd.S_slice db.out;subst ec;have ez:=bb3_ ab.out))
 go_roundg k2
 case measure=>have:=HJ9.out;have:=em.out;omega
 case rel=>exact ⟨(wrap64 (bf+1)),(ay),(dh),(.slice ea dh.length eb),tq_3,H',⟨(by have:=HJ9.out;have:=em.out;omega)⟩,⟨(by (with_reducible repeat (first|apply Kd.R_alloc|apply Kd.R_drewN|apply Kd.R_drew));exact Kd.R_mono (rR_ (Kd.R_types a5.out ab.out (by decide))) (fun _ hk=>trivial))⟩,⟨(by (with_reducible repeat (first|apply Kd.S_alloc|apply Kd.S_drewN|apply Kd.S_drew));exact Kd.S_mono (rS_ (Kd.S_types db.out ab.out (by decide))) (fun _ hk=>trivial))⟩,⟨tb_⟩,⟨tb_⟩,⟨tb_⟩,⟨tb_⟩,⟨th_⟩⟩

def impl_ReadPart.f (k:Nat) (aa:ByteArray) (ab:List (S78)) (a6:Int) (a7:Int) (a8:Int) (a9:Int) (a2:Int):Option (Int × List Int × (List (S62)) × Bool):=(impl_isPlaced.f k aa ab a6 a7 a8 a9).bind fun ac=>(if ac=true then ((impl_isTenant.f a6 a7 a8 a9 a2).bind fun ae=>(if ae=true then ((impl_readPart.f k aa ab a6 a7 a8 a9 a2).bind fun a5=>(some (a5.1,a5.2.1,a5.2.2.1,a5.2.2.2))) else (some (0,([]:List Int),([]:List (S62)),false)))) else (some (0,([]:List Int),([]:List (S62)),false)))
theorem impl_ReadPart.calls (k:Nat) (ao:ByteArray) (ap:Option Addr) (aq:Nat) (aj:List (S78)) (ak:Int) (al:Int) (am:Int) (an:Int) (a2:Int) (r1:Int) (r2:List Int) (r3:List (S62)) (r4:Bool) (w:World) (ax:Kd.C k78 w ap aj.length aj) (ay:aj.length≤aq) (h:impl_ReadPart.f k ao aj ak al am an a2=some (r1,r2,r3,r4)) :
  Calls Tryz.prog 8 #[.agg #[.string ao,.slice ap aj.length aq],.agg #[.int .i64 ak,.int .i64 al,.int .i64 am,.int .i64 an],.int .i64 a2] w fun e w'=>∃ v1_ v2_:Value,e=.returned (.tuple #[.agg #[.int .i64 r1,v1_,v2_],.bool r4])∧Kd.R (Kd.int .i64) 3 w' w.heap.size (fun _=>True) v1_ r2∧Kd.S k62 62 w' w.heap.size (fun _=>True) v2_ r3∧Below w.heap.size w w':=by
 have hu36:=Tryz.underlying36
 have hu38:=Tryz.underlying38
 have hu31:=Tryz.underlying31
 have HR0_1:=m_ ax
 have au:=m_ ay
 clear ax ay
 have HB:=m_ (Below.refl w.heap.size w)
 unfold impl_ReadPart.f at h
 have H:=h
 clear h
 obtain ⟨bh,A4,H⟩:=bd_ H
 by_cases c5:bh=true
 rotate_left
 ·replace c5:=Bool.eq_false_iff.mpr c5
  subst c5
  rw [if_neg nf_] at H
  simp only [Option.some.injEq,Prod.mk.injEq] at H
  obtain ⟨rfl,rfl,rfl,rfl⟩:=H
  go_enter Tryz.func8,Tryz.ntmps8
  go_wp2_with (first|((with_reducible refine gate_dst (N:=3) rfl ?_);refine be_ 3 (cs:=#[.string ao,.slice ap aj.length aq]) 36 ?_;intro b1 hg cd hbox hb;have z_:=bx0_ th_ hb hbox hg;clear HB;obtain ⟨HB,a5,b2,b3⟩:=z_;clear hb hbox hg)|((with_reducible refine gate_dst (N:=4) rfl ?_);refine be_ 4 (cs:=#[.int .i64 ak,.int .i64 al,.int .i64 am,.int .i64 an]) 38 ?_;intro b4 hg ce hbox hb;have z_:=bx1_ (kb_ a5) th_ hb hbox hg;clear a5 HB;obtain ⟨a5,HB,a6,b5,b6,ac,ae⟩:=z_;clear hb hbox hg)|((with_reducible refine gate_dst (N:=6) rfl ?_);refine be_ 6 (cs:=#[.int .i64 0,.slice none 0 0,.slice none 0 0]) 31 ?_;intro ar hg cf hbox hb;have z_:=bx2_ (kb_ a5) (kb_ a6) th_ hb hbox hg;clear a5 a6 HB;obtain ⟨a5,a6,HB,a7,b7,b8,a8,a9,aa,ab⟩:=z_;clear hb hbox hg;obtain ⟨av,aw,af,ag⟩:=an4_ ac ae a8 a9;have bu:=bb2_ a5.out;obtain ⟨ah,ai⟩:=an2_ aa ab;have bv:=bb4_ a6.out)|((with_reducible refine gate_callee (f:=29) rfl ?_);refine goesL_ (some 10) rfl rfl Tryz.func29 kr_ rfl #[.agg #[.string ao,.slice ap aj.length aq],.agg #[.int .i64 ak,.int .i64 al,.int .i64 am,.int .i64 an]] rfl tq_0 ?_;(with_reducible refine (impl_isPlaced.calls k ao _ _ aj ak al am an false _ ?side1 ?side2 A4.out).mono ?_);(case side1=>exact tq_4);(case side2=>exact au.out);rintro e cg ⟨rfl,hb⟩;refine ⟨_,rfl,?_⟩;have z_:=bw3_ (kb_ a5) (kb_ a6) (kb_ a7) th_ hb;clear a5 a6 a7 HB;obtain ⟨a5,a6,a7,HB⟩:=z_;(try clear hb);have bw:=bb3_ a7.out))
  refine bodyPost_ret (results_ct rfl _ _ ar 31 #[.int .i64 0,.slice none 0 0,.slice none 0 0] (0,0) _ rfl tb_ Tryz.underlying31 rfl kr_) rfl ?_
  exact ⟨_,_,tq_1,tq_5,tq_13,th_⟩
 subst c5
 rw [if_pos rfl] at H
 obtain ⟨b9,A6,H⟩:=bd_ H
 have bq:=m_ H
 clear H
 go_enter Tryz.func8,Tryz.ntmps8
 go_upto_if 17 with (first|((with_reducible refine gate_dst (N:=3) rfl ?_);refine be_ 3 (cs:=#[.string ao,.slice ap aj.length aq]) 36 ?_;intro b1 hg w8 hbox hb;have z_:=bx0_ th_ hb hbox hg;clear HB;obtain ⟨HB,a5,b2,b3⟩:=z_;clear hb hbox hg)|((with_reducible refine gate_dst (N:=4) rfl ?_);refine be_ 4 (cs:=#[.int .i64 ak,.int .i64 al,.int .i64 am,.int .i64 an]) 38 ?_;intro b4 hg w9 hbox hb;have z_:=bx1_ (kb_ a5) th_ hb hbox hg;clear a5 HB;obtain ⟨a5,HB,a6,b5,b6,ac,ae⟩:=z_;clear hb hbox hg)|((with_reducible refine gate_dst (N:=6) rfl ?_);refine be_ 6 (cs:=#[.int .i64 0,.slice none 0 0,.slice none 0 0]) 31 ?_;intro ar hg ch hbox hb;have z_:=bx2_ (kb_ a5) (kb_ a6) th_ hb hbox hg;clear a5 a6 HB;obtain ⟨a5,a6,HB,a7,b7,b8,a8,a9,aa,ab⟩:=z_;clear hb hbox hg;obtain ⟨br,bs,af,ag⟩:=an4_ ac ae a8 a9;have ba:=bb2_ a5.out;obtain ⟨ah,ai⟩:=an2_ aa ab;have bb:=bb4_ a6.out)|((with_reducible refine gate_callee (f:=29) rfl ?_);refine goesL_ (some 10) rfl rfl Tryz.func29 kr_ rfl #[.agg #[.string ao,.slice ap aj.length aq],.agg #[.int .i64 ak,.int .i64 al,.int .i64 am,.int .i64 an]] rfl tq_0 ?_;(with_reducible refine (impl_isPlaced.calls k ao _ _ aj ak al am an true _ ?side1 ?side2 A4.out).mono ?_);(case side1=>exact tq_4);(case side2=>exact au.out);rintro e ci ⟨rfl,hb⟩;refine ⟨_,rfl,?_⟩;have z_:=bw3_ (kb_ a5) (kb_ a6) (kb_ a7) th_ hb;clear a5 a6 a7 HB;obtain ⟨a5,a6,a7,HB⟩:=z_;(try clear hb);have bc:=bb4_ a6.out)|(go_at_call 30;(with_reducible refine (impl_isTenant.calls ak al am an a2 b9 _ A6.out).mono ?_);rintro e cj ⟨rfl,hb⟩;have z_:=bw3_ (kb_ a5) (kb_ a6) (kb_ a7) th_ hb;clear a5 a6 a7 HB;obtain ⟨a5,a6,a7,HB⟩:=z_;(try clear hb)))
 (try simp only [Act.put,List.setIfInBounds_toArray,List.set_cons_zero,List.set_cons_succ])
 (try clear af ah ag ai)
 (try clear ba)
 (try clear bb)
 (try clear bc)
 (try clear ba)
 (try clear bb)
 (try clear bc)
 have H:=bq.out
 clear bq
 by_cases bg:b9=true
 rotate_left
 ·replace bg:=Bool.eq_false_iff.mpr bg
  subst bg
  rw [if_neg nf_] at H
  simp only [Option.some.injEq,Prod.mk.injEq] at H
  obtain ⟨rfl,rfl,rfl,rfl⟩:=H
  obtain ⟨ag,af,ai,ah⟩:=an4_ a9 a8 ab aa
  have bx:=bb3_ a7.out
  go_wp2
  refine bodyPost_ret (results_ct rfl _ _ ar 31 #[.int .i64 0,.slice none 0 0,.slice none 0 0] (0,0) _ rfl tb_ Tryz.underlying31 rfl kr_) rfl ?_
  exact ⟨_,_,tq_1,tq_5,tq_13,th_⟩
 subst bg
 rw [if_pos rfl] at H
 obtain ⟨⟨bd,be,bf,bi⟩,bz,H⟩:=bd_ H
 try dsimp -simprocs only at H
 simp only [Option.some.injEq,Prod.mk.injEq] at H
 obtain ⟨rfl,rfl,rfl,rfl⟩:=H
 obtain ⟨av,aw,af,ag⟩:=an4_ ac ae a8 a9
 have ca:=bb2_ a5.out
 obtain ⟨ah,ai⟩:=an2_ aa ab
 have cb:=bb4_ a6.out
 go_wp2_with (first|((with_reducible refine gate_callee (f:=31) rfl ?_);refine goesL_ (some 22) rfl rfl Tryz.func31 kr_ rfl #[.agg #[.string ao,.slice ap aj.length aq],.agg #[.int .i64 ak,.int .i64 al,.int .i64 am,.int .i64 an],.int .i64 a2] rfl tq_0 ?_;(with_reducible refine (impl_readPart.calls k ao _ _ aj ak al am an a2 bd be bf bi _ ?side1 ?side2 bz.out).mono ?_);(case side1=>exact tq_4);(case side2=>exact au.out);rintro e ck ⟨v647,v650,rfl,ho0,ho1,hb⟩;refine ⟨_,rfl,?_⟩;have z_:=p_ (Kd.R_lower ho0 (below_size th_)) <| p_ (Kd.S_lower ho1 (below_size th_)) <| bw3_ (kb_ a5) (kb_ a6) (kb_ a7) th_ hb;clear a5 a6 a7 HB;obtain ⟨az,b0,a5,a6,a7,HB⟩:=z_;(try clear hb);(try clear ho0);(try clear ho1);have cc:=bb3_ a7.out;obtain ⟨bj,bl,bm⟩:=Kd.R_slice az.out;subst bm;obtain ⟨bn,bo,bp⟩:=Kd.S_slice b0.out;subst bp))
 refine bodyPost_ret (results_ct rfl _ _ ar 31 #[.int .i64 bd,.slice bj be.length bl,.slice bn bf.length bo] (0,0) _ rfl tb_ Tryz.underlying31 rfl kr_) rfl ?_
 exact ⟨_,_,tq_1,(by (with_reducible repeat (first|apply Kd.R_alloc|apply Kd.R_drewN|apply Kd.R_drew));exact Kd.R_mono (rR_ (rR_ (rR_ (Kd.R_types az.out a7.out (by decide))))) (fun _ hk=>trivial)),(by (with_reducible repeat (first|apply Kd.S_alloc|apply Kd.S_drewN|apply Kd.S_drew));exact Kd.S_mono (rS_ (rS_ (rS_ (Kd.S_types b0.out a7.out (by decide))))) (fun _ hk=>trivial)),th_⟩

def laws_eqIntS.l0:Nat→List Int→List Int→Int→Option (Bool)
 | 0,_,_,_=>none
 | k+1,x0,x1,x5=>if x5 < (x0.length:Int) then (if 0≤x5 then (if x5 < (x1.length:Int) then (if (rd x0 x5)=(rd x1 x5) then (laws_eqIntS.l0 k x0 x1 (wrap64 (x5+1))) else (some false)) else (none)) else (none)) else (some true)
def laws_eqIntS.f (k:Nat) (l0:List Int) (l1:List Int):Option (Bool):=if (l0.length:Int)=(l1.length:Int) then (laws_eqIntS.l0 k l0 l1 0) else (some false)
theorem laws_eqIntS.calls (k:Nat) (A0:Option Addr) (c0:Nat) (l0:List Int) (A1:Option Addr) (c1:Nat) (l1:List Int) (r:Bool) (w:World) (hr0:Kd.C (Kd.int .i64) w A0 l0.length l0) (hc0:l0.length≤c0) (hr1:Kd.C (Kd.int .i64) w A1 l1.length l1) (hc1:l1.length≤c1) (h:laws_eqIntS.f k l0 l1=some r) :
  Calls Tryz.prog 32 #[.slice A0 l0.length c0,.slice A1 l1.length c1] w fun e w'=>e=.returned (.bool r)∧Drawn0 w w':=by
 have HR0:=m_ hr0
 have ar:=m_ hc0
 clear hr0 hc0
 have ao:=m_ hr1
 have au:=m_ hc1
 clear hr1 hc1
 unfold laws_eqIntS.f at h
 have H:=h
 clear h
 by_cases c3:(l0.length:Int)=(l1.length:Int)
 rotate_left
 ·rw [if_neg c3] at H
  have ae:=qc_ c3
  have af:=qd_ c3
  have ag:(l0.length == l1.length)=false:=by first|simpa using c3|(simp at c3 ⊢;omega)
  obtain rfl:=oi_ H
  go_enter Tryz.func32,Tryz.ntmps32
  go_wp2
  repeat (go_quiet (fail);try go_wp2)
  go_ret
  exact ⟨tq_3,tq_8⟩
 rw [if_pos c3] at H
 have ae:=qa_ c3
 have af:=qb_ c3
 have ag:(l0.length == l1.length)=true:=by first|simpa using c3|(simp at c3 ⊢;omega)
 clear c3
 have H':=m_ H
 clear H
 go_enter Tryz.func32,Tryz.ntmps32
 go_wp2
 repeat (go_quiet (fail);try go_wp2)
 go_loopg [5] k (fun kq v5 w'=>∃ (a5:Int),v5=.int .i64 a5∧Aside0 (laws_eqIntS.l0 kq l0 l1 a5=some r)∧Aside0 (kq≤k)∧Drawn0 w w')
 case atStart=>exact ⟨(0),tq_3,H',⟨Nat.le_refl _⟩,tq_8⟩
 case round =>
 clear H'
 try clear c1;try clear p2;try clear c3;try clear ae;try clear af;try clear ag
 obtain ⟨a5,rfl,HA,HK1,⟨m1,rfl⟩⟩:=hrel
 cases gk with
 | zero=>exact absurd HA.out (by simp [laws_eqIntS.l0])
 | succ k1 =>
 have H:=HA.out
 clear HA
 simp only [laws_eqIntS.l0] at H
 by_cases c4:a5 < (l0.length:Int)
 rotate_left
 ·rw [if_neg c4] at H
  have ah:=df_ c4
  clear c4
  obtain rfl:=oi_ H
  go_wp2
  repeat (go_quiet (fail);try go_wp2)
  go_ret
  exact ⟨tq_3,tq_8⟩
 rw [if_pos c4] at H
 have ah:=de_ c4
 clear c4
 obtain ⟨c5,H⟩:=fc_ H
 have ap:=de_ c5
 clear c5
 obtain ⟨c6,H⟩:=fc_ H
 have aq:=de_ c6
 clear c6
 have al:=m_ H
 clear H
 have a9:0≤(a5:Int):=od_ tq_2
 have aa:a5 < (l0.length:Int):=od_ tq_2
 obtain ⟨am,ai,a7⟩:=Kd.at_int HR0.out a5 a9 aa
 cases ai
 replace a9:=eq_true a9
 replace aa:=eq_true aa
 have ab:0≤(a5:Int):=od_ tq_2
 have ac:a5 < (l1.length:Int):=od_ tq_2
 obtain ⟨an,aj,a8⟩:=Kd.at_int ao.out a5 ab ac
 cases aj
 replace ab:=eq_true ab
 replace ac:=eq_true ac
 go_upto_if 25 with (fail)
 repeat (go_quiet (fail);go_upto_if 25 with (fail))
 (try clear a7)
 (try clear a8)
 have H:=al.out
 clear al
 by_cases c8:(rd l0 a5)=(rd l1 a5)
 rotate_left
 ·rw [if_neg c8] at H
  have a6:=qc_ c8
  have ak:=qd_ c8
  (first|rw [a6]|(simp only [i64_w,i32_w];rw [a6])|skip)
  obtain rfl:=oi_ H
  go_wp2
  repeat (go_quiet (fail);try go_wp2)
  go_ret
  exact ⟨tq_3,tq_8⟩
 rw [if_pos c8] at H
 have a6:=qa_ c8
 have ak:=qb_ c8
 clear c8
 (first|rw [a6]|(simp only [i64_w,i32_w];rw [a6])|skip)
 have H':=m_ H
 clear H
 go_wp2
 repeat (go_quiet (fail);try go_wp2)
 go_roundg k1
 case measure=>have:=HK1.out;omega
 case rel=>exact ⟨(wrap64 (a5+1)),tq_3,H',⟨tq_14⟩,tq_8⟩

def laws_eqRec.f (a5:Int) (a6:Int) (a7:ByteArray) (a8:Int) (a9:Int) (aa:ByteArray):Option (Bool):=if a5=a8 then (if a6=a9 then (if a7.toList=aa.toList then (some true) else (some false)) else (some false)) else (some false)
theorem laws_eqRec.calls (af:Int) (ag:Int) (ah:ByteArray) (ai:Int) (aj:Int) (ak:ByteArray) (r:Bool) (w:World) (h:laws_eqRec.f af ag ah ai aj ak=some r) :
  Calls Tryz.prog 110 #[.agg #[.int .i64 af,.int .i64 ag,.string ah],.agg #[.int .i64 ai,.int .i64 aj,.string ak]] w fun e w'=>e=.returned (.bool r)∧Below w.heap.size w w':=by
 have hu86:=Tryz.underlying86
 have HB:=m_ (Below.refl w.heap.size w)
 unfold laws_eqRec.f at h
 have H:=h
 clear h
 have ay:=m_ H
 clear H
 go_enter Tryz.func110,Tryz.ntmps110
 go_upto_if 9 with (first|((with_reducible refine gate_dst (N:=2) rfl ?_);refine be_ 2 (cs:=#[.int .i64 af,.int .i64 ag,.string ah]) 86 ?_;intro az hg w4 hbox hb;have z_:=bx0_ th_ hb hbox hg;clear HB;obtain ⟨HB,a7,b0,b1⟩:=z_;clear hb hbox hg)|((with_reducible refine gate_dst (N:=3) rfl ?_);refine be_ 3 (cs:=#[.int .i64 ai,.int .i64 aj,.string ak]) 86 ?_;intro b2 hg w5 hbox hb;have z_:=bx1_ (kb_ a7) th_ hb hbox hg;clear a7 HB;obtain ⟨a7,HB,aa,b3,b4,a5,a6⟩:=z_;clear hb hbox hg;obtain ⟨b9,ba⟩:=an2_ a5 a6;have b5:=bb3_ a7.out;have b6:=bb3_ aa.out))
 (try simp only [Act.put,List.setIfInBounds_toArray,List.set_cons_zero,List.set_cons_succ])
 (try clear b5)
 (try clear b6)
 (try clear b5)
 (try clear b6)
 have H:=ay.out
 clear ay
 by_cases c9:af=ai
 rotate_left
 ·rw [if_neg c9] at H
  have ab:=qc_ c9
  have ax:=qd_ c9
  (first|rw [ab]|(simp only [i64_w,i32_w];rw [ab])|skip)
  obtain rfl:=oi_ H
  go_wp2
  go_ret
  exact ⟨tq_1,th_⟩
 rw [if_pos c9] at H
 have ab:=qa_ c9
 have ax:=qb_ c9
 clear c9
 (first|rw [ab]|(simp only [i64_w,i32_w];rw [ab])|skip)
 have an:=m_ H
 clear H
 obtain ⟨b7,b8⟩:=an2_ a5 a6
 have ao:=bb3_ a7.out
 have ap:=bb3_ aa.out
 go_upto_if 14 with (fail)
 (try clear ao)
 (try clear ap)
 (try clear ao)
 (try clear ap)
 have H:=an.out
 clear an
 by_cases al:ag=aj
 rotate_left
 ·rw [if_neg al] at H
  have a8:=qc_ al
  have aq:=qd_ al
  (first|rw [a8]|(simp only [i64_w,i32_w];rw [a8])|skip)
  obtain rfl:=oi_ H
  go_wp2
  go_ret
  exact ⟨tq_1,th_⟩
 rw [if_pos al] at H
 have a8:=qa_ al
 have aq:=qb_ al
 clear al
 (first|rw [a8]|(simp only [i64_w,i32_w];rw [a8])|skip)
 have ar:=m_ H
 clear H
 obtain ⟨ac,ae⟩:=an2_ a5 a6
 have au:=bb3_ a7.out
 have av:=bb3_ aa.out
 go_upto_if 19 with (fail)
 (try clear ac ae)
 (try clear au)
 (try clear av)
 (try clear au)
 (try clear av)
 have H:=ar.out
 clear ar
 by_cases am:ah.toList=ak.toList
 rotate_left
 ·rw [if_neg am] at H
  have a9:=qc_ am
  have aw:=qd_ am
  (first|rw [a9]|(simp only [i64_w,i32_w];rw [a9])|skip)
  obtain rfl:=oi_ H
  go_wp2
  go_ret
  exact ⟨tq_1,th_⟩
 rw [if_pos am] at H
 have a9:=qa_ am
 have aw:=qb_ am
 clear am
 (first|rw [a9]|(simp only [i64_w,i32_w];rw [a9])|skip)
 obtain rfl:=oi_ H
 go_wp2
 go_ret
 exact ⟨tq_1,th_⟩

def laws_eqRecS.l0:Nat→List (S86)→List (S86)→Int→Option (Bool)
 | 0,_,_,_=>none
 | k+1,x0,x1,x5=>if x5 < (x0.length:Int) then (if 0≤x5 then (if x5 < (x1.length:Int) then ((laws_eqRec.f ((rd_T86 x0 x5).f0) ((rd_T86 x0 x5).f1) ((rd_T86 x0 x5).f2) ((rd_T86 x1 x5).f0) ((rd_T86 x1 x5).f1) ((rd_T86 x1 x5).f2)).bind fun a5=>(if a5=true then (laws_eqRecS.l0 k x0 x1 (wrap64 (x5+1))) else (some false))) else (none)) else (none)) else (some true)
def laws_eqRecS.f (k:Nat) (l0:List (S86)) (l1:List (S86)):Option (Bool):=if (l0.length:Int)=(l1.length:Int) then (laws_eqRecS.l0 k l0 l1 0) else (some false)
def laws_eqRecS.T6:Bool × List (List Nat × List Nat):=(true,[([],[]),([],[]),([0,1],[0,1]),([2],[2]),([],[]),([],[]),([4,5],[4,5]),([6],[6]),([3,7],[3,7]),([8],[8])])
def laws_eqRecS.B6:List Nat:=[0,0,3,7,0,0,48,112,255,511]
theorem laws_eqRecS.tab6:rtab .any (opsOf Tryz.f93 6)=laws_eqRecS.T6:=by kernel_rfl
theorem laws_eqRecS.bits6:waitsOk laws_eqRecS.T6.2 laws_eqRecS.B6=true:=by kernel_rfl
theorem laws_eqRecS.calls (k:Nat) (A0:Option Addr) (c0:Nat) (l0:List (S86)) (A1:Option Addr) (c1:Nat) (l1:List (S86)) (r:Bool) (w:World) (hr0:Kd.C k86 w A0 l0.length l0) (hc0:l0.length≤c0) (hr1:Kd.C k86 w A1 l1.length l1) (hc1:l1.length≤c1) (h:laws_eqRecS.f k l0 l1=some r) :
  Calls Tryz.prog 93 #[.slice A0 l0.length c0,.slice A1 l1.length c1] w fun e w'=>e=.returned (.bool r)∧Below w.heap.size w w':=by
 have hu86:=Tryz.underlying86
 have HR0:=m_ hr0
 have b3:=m_ hc0
 clear hr0 hc0
 have b0:=m_ hr1
 have b4:=m_ hc1
 clear hr1 hc1
 have HB:=m_ (Below.refl w.heap.size w)
 unfold laws_eqRecS.f at h
 have H:=h
 clear h
 by_cases c3:(l0.length:Int)=(l1.length:Int)
 rotate_left
 ·rw [if_neg c3] at H
  have ap:=qc_ c3
  have aq:=qd_ c3
  have ar:(l0.length == l1.length)=false:=by first|simpa using c3|(simp at c3 ⊢;omega)
  obtain rfl:=oi_ H
  go_enter Tryz.func93,Tryz.ntmps93
  go_wp2
  go_ret
  exact ⟨tq_1,th_⟩
 rw [if_pos c3] at H
 have ap:=qa_ c3
 have aq:=qb_ c3
 have ar:(l0.length == l1.length)=true:=by first|simpa using c3|(simp at c3 ⊢;omega)
 clear c3
 have H':=m_ H
 clear H
 go_enter Tryz.func93,Tryz.ntmps93
 go_wp2
 go_loopg [5] k (fun kq v5 w'=>∃ (a5:Int),v5=.int .i64 a5∧Aside0 (laws_eqRecS.l0 kq l0 l1 a5=some r)∧Aside0 (kq≤k)∧Aside0 (Below w.heap.size w w'))
 case atStart=>exact ⟨(0),tq_3,H',⟨Nat.le_refl _⟩,⟨th_⟩⟩
 case round =>
 clear H'
 try clear c1;try clear p2;try clear c3;try clear ap;try clear aq;try clear ar
 obtain ⟨a5,rfl,HA,HK1,HB⟩:=hrel
 cases gk with
 | zero=>exact absurd HA.out (by simp [laws_eqRecS.l0])
 | succ k1 =>
 have H:=HA.out
 clear HA
 simp only [laws_eqRecS.l0] at H
 by_cases c4:a5 < (l0.length:Int)
 rotate_left
 ·rw [if_neg c4] at H
  have aw:=df_ c4
  clear c4
  obtain rfl:=oi_ H
  go_wp2
  go_ret
  exact ⟨tq_1,th_⟩
 rw [if_pos c4] at H
 have aw:=de_ c4
 clear c4
 obtain ⟨c5,H⟩:=fc_ H
 have b1:=de_ c5
 clear c5
 obtain ⟨c6,H⟩:=fc_ H
 have b2:=de_ c6
 clear c6
 obtain ⟨au,A7,H⟩:=bd_ H
 have az:=m_ H
 clear H
 try go_wp2
 have n0_:=m_ (below_drew1 HB.out)
 clear HB
 have HB:=n0_
 clear n0_
 have al:0≤(a5:Int):=od_ tq_2
 have am:a5 < (l0.length:Int):=od_ tq_2
 obtain ⟨aj,ax,a6,a7,a8⟩:=at_T86 HR0.out a5 al am
 have ac:=a8
 have ae:=a7
 have af:=a6
 cases ax
 replace a6:=hx_ HB.out a6
 replace a7:=hx_ HB.out a7
 replace a8:=hx_ HB.out a8
 replace al:=eq_true al
 replace am:=eq_true am
 have an:0≤(a5:Int):=od_ tq_2
 have ao:a5 < (l1.length:Int):=od_ tq_2
 obtain ⟨ak,ay,a9,aa,ab⟩:=at_T86 b0.out a5 an ao
 have ag:=ab
 have ah:=aa
 have ai:=a9
 cases ay
 replace a9:=hx_ HB.out a9
 replace aa:=hx_ HB.out aa
 replace ab:=hx_ HB.out ab
 replace an:=eq_true an
 replace ao:=eq_true ao
 refine start_ (n:=10) (S:=fun w'=>w'.cell? (aj.add ((a5).toNat * 3))=some (.int .i64 ((rd_T86 l0 a5).f0))∧w'.cell? ⟨(aj.add ((a5).toNat * 3)).block,(aj.add ((a5).toNat * 3)).off+1,none⟩=some (.int .i64 ((rd_T86 l0 a5).f1))∧w'.cell? ⟨(aj.add ((a5).toNat * 3)).block,(aj.add ((a5).toNat * 3)).off+2,none⟩=some (.string ((rd_T86 l0 a5).f2))∧w'.cell? (ak.add ((a5).toNat * 3))=some (.int .i64 ((rd_T86 l1 a5).f0))∧w'.cell? ⟨(ak.add ((a5).toNat * 3)).block,(ak.add ((a5).toNat * 3)).off+1,none⟩=some (.int .i64 ((rd_T86 l1 a5).f1))∧w'.cell? ⟨(ak.add ((a5).toNat * 3)).block,(ak.add ((a5).toNat * 3)).off+2,none⟩=some (.string ((rd_T86 l1 a5).f2))) (ds:=[]) bq_131 kr_ rfl rfl ⟨((HB.out.cell (World.block_lt_of_cell? w _ af)).trans af),((HB.out.cell (World.block_lt_of_cell? w _ ae)).trans ae),((HB.out.cell (World.block_lt_of_cell? w _ ac)).trans ac),((HB.out.cell (World.block_lt_of_cell? w _ ai)).trans ai),((HB.out.cell (World.block_lt_of_cell? w _ ah)).trans ah),((HB.out.cell (World.block_lt_of_cell? w _ ag)).trans ag)⟩ (fun hHeld=>?_);refine with_tabW laws_eqRecS.tab6 laws_eqRecS.bits6 (fun HT_ HW_=>?_)
 generalize wr.drew=w9 at HB a6 a7 a8 a9 aa ab hHeld ⊢
 refine yr_ 0 17 bq_132 HT_ ?_
 refine yr_ 1 18 bq_133 HT_ ?_
 refine yr_ 2 19 bq_134 HT_ ?_
 refine yr_ 4 21 bq_135 HT_ ?_
 refine yr_ 5 22 bq_136 HT_ ?_
 refine yr_ 6 23 bq_137 HT_ ?_
 refine tr_ 3 20 bq_138 HT_ HW_ hHeld ?_
 refine tr_ 7 24 bq_139 HT_ HW_ hHeld ?_
 refine one_ (i:=8) (N:=some 25) bq_140 rfl rfl (one_of HT_.out kr_) (by decide) (fun K hK=>?_)
 refine goes_ Tryz.func110 kr_ rfl #[.agg #[.int .i64 ((rd_T86 l0 a5).f0),.int .i64 ((rd_T86 l0 a5).f1),.string ((rd_T86 l0 a5).f2)],.agg #[.int .i64 ((rd_T86 l1 a5).f0),.int .i64 ((rd_T86 l1 a5).f1),.string ((rd_T86 l1 a5).f2)]] (by rfl) rfl rfl tq_0 ?_
 with_reducible refine (laws_eqRec.calls ((rd_T86 l0 a5).f0) ((rd_T86 l0 a5).f1) ((rd_T86 l0 a5).f2) ((rd_T86 l1 a5).f0) ((rd_T86 l1 a5).f1) ((rd_T86 l1 a5).f2) au _ A7.out).mono ?_
 rintro e b5 ⟨rfl,hb⟩
 refine ⟨_,rfl,?_⟩
 have n0_:=m_ (below_step th_ hb)
 clear HB
 have HB:=n0_
 clear n0_
 (try clear hb)
 refine hK.out _ _ ⟨((HB.out.cell (World.block_lt_of_cell? w _ af)).trans af),((HB.out.cell (World.block_lt_of_cell? w _ ae)).trans ae),((HB.out.cell (World.block_lt_of_cell? w _ ac)).trans ac),((HB.out.cell (World.block_lt_of_cell? w _ ai)).trans ai),((HB.out.cell (World.block_lt_of_cell? w _ ah)).trans ah),((HB.out.cell (World.block_lt_of_cell? w _ ag)).trans ag)⟩ (fun hHeld=>?_)
 clear hK K
 refine nm_ (some 25) ?_
 refine yr_ 9 26 bq_141 HT_ ?_
 refine done_ (done_of HT_.out kr_) ?_
 go_upto_if 26 with (fail)
 (try clear a6 a7 a8)
 (try clear a9 aa ab)
 have H:=az.out
 clear az
 by_cases av:au=true
 rotate_left
 ·replace av:=Bool.eq_false_iff.mpr av
  subst av
  rw [if_neg nf_] at H
  obtain rfl:=oi_ H
  go_wp2
  go_ret
  exact ⟨tq_1,th_⟩
 subst av
 rw [if_pos rfl] at H
 have H':=m_ H
 clear H
 go_wp2
 go_roundg k1
 case measure=>have:=HK1.out;omega
 case rel=>exact ⟨(wrap64 (a5+1)),tq_3,H',⟨tq_14⟩,⟨th_⟩⟩

def laws_eqEntry.f (a5:Int) (a6:ByteArray) (a7:Int) (a8:ByteArray):Option (Bool):=if a5=a7 then (if a6.toList=a8.toList then (some true) else (some false)) else (some false)
theorem laws_eqEntry.calls (aa:Int) (ab:ByteArray) (ac:Int) (ae:ByteArray) (r:Bool) (w:World) (h:laws_eqEntry.f aa ab ac ae=some r) :
  Calls Tryz.prog 111 #[.agg #[.int .i64 aa,.string ab],.agg #[.int .i64 ac,.string ae]] w fun e w'=>e=.returned (.bool r)∧Below w.heap.size w w':=by
 have hu90:=Tryz.underlying90
 have HB:=m_ (Below.refl w.heap.size w)
 unfold laws_eqEntry.f at h
 have H:=h
 clear h
 have am:=m_ H
 clear H
 go_enter Tryz.func111,Tryz.ntmps111
 go_upto_if 9 with (first|((with_reducible refine gate_dst (N:=2) rfl ?_);refine be_ 2 (cs:=#[.int .i64 aa,.string ab]) 90 ?_;intro an hg w4 hbox hb;have z_:=bx0_ th_ hb hbox hg;clear HB;obtain ⟨HB,a7,ao,ap⟩:=z_;clear hb hbox hg)|((with_reducible refine gate_dst (N:=3) rfl ?_);refine be_ 3 (cs:=#[.int .i64 ac,.string ae]) 90 ?_;intro aq hg w5 hbox hb;have z_:=bx1_ (kb_ a7) th_ hb hbox hg;clear a7 HB;obtain ⟨a7,HB,af,ar,au,a5,a6⟩:=z_;clear hb hbox hg;obtain ⟨az,b0⟩:=an2_ a5 a6;have av:=bb2_ a7.out;have aw:=bb2_ af.out))
 (try simp only [Act.put,List.setIfInBounds_toArray,List.set_cons_zero,List.set_cons_succ])
 (try clear av)
 (try clear aw)
 (try clear av)
 (try clear aw)
 have H:=am.out
 clear am
 by_cases c9:aa=ac
 rotate_left
 ·rw [if_neg c9] at H
  have a9:=qc_ c9
  have al:=qd_ c9
  (first|rw [a9]|(simp only [i64_w,i32_w];rw [a9])|skip)
  obtain rfl:=oi_ H
  go_wp2
  go_ret
  exact ⟨tq_1,th_⟩
 rw [if_pos c9] at H
 have a9:=qa_ c9
 have al:=qb_ c9
 clear c9
 (first|rw [a9]|(simp only [i64_w,i32_w];rw [a9])|skip)
 have ah:=m_ H
 clear H
 obtain ⟨ax,ay⟩:=an2_ a5 a6
 have ai:=bb2_ a7.out
 have aj:=bb2_ af.out
 go_upto_if 14 with (fail)
 (try clear ai)
 (try clear aj)
 (try clear ai)
 (try clear aj)
 have H:=ah.out
 clear ah
 by_cases ag:ab.toList=ae.toList
 rotate_left
 ·rw [if_neg ag] at H
  have a8:=qc_ ag
  have ak:=qd_ ag
  (first|rw [a8]|(simp only [i64_w,i32_w];rw [a8])|skip)
  obtain rfl:=oi_ H
  go_wp2
  go_ret
  exact ⟨tq_1,th_⟩
 rw [if_pos ag] at H
 have a8:=qa_ ag
 have ak:=qb_ ag
 clear ag
 (first|rw [a8]|(simp only [i64_w,i32_w];rw [a8])|skip)
 obtain rfl:=oi_ H
 go_wp2
 go_ret
 exact ⟨tq_1,th_⟩

def laws_eqEntryS.l0:Nat→List (S90)→List (S90)→Int→Option (Bool)
 | 0,_,_,_=>none
 | k+1,x0,x1,x5=>if x5 < (x0.length:Int) then (if 0≤x5 then (if x5 < (x1.length:Int) then ((laws_eqEntry.f ((rd_T90 x0 x5).f0) ((rd_T90 x0 x5).f1) ((rd_T90 x1 x5).f0) ((rd_T90 x1 x5).f1)).bind fun a5=>(if a5=true then (laws_eqEntryS.l0 k x0 x1 (wrap64 (x5+1))) else (some false))) else (none)) else (none)) else (some true)
def laws_eqEntryS.f (k:Nat) (l0:List (S90)) (l1:List (S90)):Option (Bool):=if (l0.length:Int)=(l1.length:Int) then (laws_eqEntryS.l0 k l0 l1 0) else (some false)
def laws_eqEntryS.T6:Bool × List (List Nat × List Nat):=(true,[([],[]),([],[]),([0,1],[0,1]),([2],[2]),([],[]),([],[]),([4,5],[4,5]),([6],[6]),([3,7],[3,7]),([8],[8])])
def laws_eqEntryS.B6:List Nat:=[0,0,3,7,0,0,48,112,255,511]
theorem laws_eqEntryS.tab6:rtab .any (opsOf Tryz.f94 6)=laws_eqEntryS.T6:=by kernel_rfl
theorem laws_eqEntryS.bits6:waitsOk laws_eqEntryS.T6.2 laws_eqEntryS.B6=true:=by kernel_rfl
theorem laws_eqEntryS.calls (k:Nat) (A0:Option Addr) (c0:Nat) (l0:List (S90)) (A1:Option Addr) (c1:Nat) (l1:List (S90)) (r:Bool) (w:World) (hr0:Kd.C k90 w A0 l0.length l0) (hc0:l0.length≤c0) (hr1:Kd.C k90 w A1 l1.length l1) (hc1:l1.length≤c1) (h:laws_eqEntryS.f k l0 l1=some r) :
  Calls Tryz.prog 94 #[.slice A0 l0.length c0,.slice A1 l1.length c1] w fun e w'=>e=.returned (.bool r)∧Below w.heap.size w w':=by
 have hu90:=Tryz.underlying90
 have HR0:=m_ hr0
 have az:=m_ hc0
 clear hr0 hc0
 have aw:=m_ hr1
 have b0:=m_ hc1
 clear hr1 hc1
 have HB:=m_ (Below.refl w.heap.size w)
 unfold laws_eqEntryS.f at h
 have H:=h
 clear h
 by_cases c3:(l0.length:Int)=(l1.length:Int)
 rotate_left
 ·rw [if_neg c3] at H
  have al:=qc_ c3
  have am:=qd_ c3
  have an:(l0.length == l1.length)=false:=by first|simpa using c3|(simp at c3 ⊢;omega)
  obtain rfl:=oi_ H
  go_enter Tryz.func94,Tryz.ntmps94
  go_wp2
  go_ret
  exact ⟨tq_1,th_⟩
 rw [if_pos c3] at H
 have al:=qa_ c3
 have am:=qb_ c3
 have an:(l0.length == l1.length)=true:=by first|simpa using c3|(simp at c3 ⊢;omega)
 clear c3
 have H':=m_ H
 clear H
 go_enter Tryz.func94,Tryz.ntmps94
 go_wp2
 go_loopg [5] k (fun kq v5 w'=>∃ (a5:Int),v5=.int .i64 a5∧Aside0 (laws_eqEntryS.l0 kq l0 l1 a5=some r)∧Aside0 (kq≤k)∧Aside0 (Below w.heap.size w w'))
 case atStart=>exact ⟨(0),tq_3,H',⟨Nat.le_refl _⟩,⟨th_⟩⟩
 case round =>
 clear H'
 try clear c1;try clear p2;try clear c3;try clear al;try clear am;try clear an
 obtain ⟨a5,rfl,HA,HK1,HB⟩:=hrel
 cases gk with
 | zero=>exact absurd HA.out (by simp [laws_eqEntryS.l0])
 | succ k1 =>
 have H:=HA.out
 clear HA
 simp only [laws_eqEntryS.l0] at H
 by_cases c4:a5 < (l0.length:Int)
 rotate_left
 ·rw [if_neg c4] at H
  have aq:=df_ c4
  clear c4
  obtain rfl:=oi_ H
  go_wp2
  go_ret
  exact ⟨tq_1,th_⟩
 rw [if_pos c4] at H
 have aq:=de_ c4
 clear c4
 obtain ⟨c5,H⟩:=fc_ H
 have ax:=de_ c5
 clear c5
 obtain ⟨c6,H⟩:=fc_ H
 have ay:=de_ c6
 clear c6
 obtain ⟨ao,A7,H⟩:=bd_ H
 have av:=m_ H
 clear H
 try go_wp2
 have n0_:=m_ (below_drew1 HB.out)
 clear HB
 have HB:=n0_
 clear n0_
 have ah:0≤(a5:Int):=od_ tq_2
 have ai:a5 < (l0.length:Int):=od_ tq_2
 obtain ⟨af,ar,a6,a7⟩:=at_T90 HR0.out a5 ah ai
 have aa:=a7
 have ab:=a6
 cases ar
 replace a6:=hx_ HB.out a6
 replace a7:=hx_ HB.out a7
 replace ah:=eq_true ah
 replace ai:=eq_true ai
 have aj:0≤(a5:Int):=od_ tq_2
 have ak:a5 < (l1.length:Int):=od_ tq_2
 obtain ⟨ag,au,a8,a9⟩:=at_T90 aw.out a5 aj ak
 have ac:=a9
 have ae:=a8
 cases au
 replace a8:=hx_ HB.out a8
 replace a9:=hx_ HB.out a9
 replace aj:=eq_true aj
 replace ak:=eq_true ak
 refine start_ (n:=10) (S:=fun w'=>w'.cell? (af.add ((a5).toNat * 2))=some (.int .i64 ((rd_T90 l0 a5).f0))∧w'.cell? ⟨(af.add ((a5).toNat * 2)).block,(af.add ((a5).toNat * 2)).off+1,none⟩=some (.string ((rd_T90 l0 a5).f1))∧w'.cell? (ag.add ((a5).toNat * 2))=some (.int .i64 ((rd_T90 l1 a5).f0))∧w'.cell? ⟨(ag.add ((a5).toNat * 2)).block,(ag.add ((a5).toNat * 2)).off+1,none⟩=some (.string ((rd_T90 l1 a5).f1))) (ds:=[]) bq_131 kr_ rfl rfl ⟨((HB.out.cell (World.block_lt_of_cell? w _ ab)).trans ab),((HB.out.cell (World.block_lt_of_cell? w _ aa)).trans aa),((HB.out.cell (World.block_lt_of_cell? w _ ae)).trans ae),((HB.out.cell (World.block_lt_of_cell? w _ ac)).trans ac)⟩ (fun hHeld=>?_);refine with_tabW laws_eqEntryS.tab6 laws_eqEntryS.bits6 (fun HT_ HW_=>?_)
 generalize wr.drew=w9 at HB a6 a7 a8 a9 hHeld ⊢
 refine yr_ 0 17 bq_132 HT_ ?_
 refine yr_ 1 18 bq_133 HT_ ?_
 refine yr_ 2 19 bq_134 HT_ ?_
 refine yr_ 4 21 bq_135 HT_ ?_
 refine yr_ 5 22 bq_136 HT_ ?_
 refine yr_ 6 23 bq_137 HT_ ?_
 refine tr_ 3 20 bq_138 HT_ HW_ hHeld ?_
 refine tr_ 7 24 bq_139 HT_ HW_ hHeld ?_
 refine one_ (i:=8) (N:=some 25) bq_140 rfl rfl (one_of HT_.out kr_) (by decide) (fun K hK=>?_)
 refine goes_ Tryz.func111 kr_ rfl #[.agg #[.int .i64 ((rd_T90 l0 a5).f0),.string ((rd_T90 l0 a5).f1)],.agg #[.int .i64 ((rd_T90 l1 a5).f0),.string ((rd_T90 l1 a5).f1)]] (by rfl) rfl rfl tq_0 ?_
 with_reducible refine (laws_eqEntry.calls ((rd_T90 l0 a5).f0) ((rd_T90 l0 a5).f1) ((rd_T90 l1 a5).f0) ((rd_T90 l1 a5).f1) ao _ A7.out).mono ?_
 rintro e b1 ⟨rfl,hb⟩
 refine ⟨_,rfl,?_⟩
 have n0_:=m_ (below_step th_ hb)
 clear HB
 have HB:=n0_
 clear n0_
 (try clear hb)
 refine hK.out _ _ ⟨((HB.out.cell (World.block_lt_of_cell? w _ ab)).trans ab),((HB.out.cell (World.block_lt_of_cell? w _ aa)).trans aa),((HB.out.cell (World.block_lt_of_cell? w _ ae)).trans ae),((HB.out.cell (World.block_lt_of_cell? w _ ac)).trans ac)⟩ (fun hHeld=>?_)
 clear hK K
 refine nm_ (some 25) ?_
 refine yr_ 9 26 bq_141 HT_ ?_
 refine done_ (done_of HT_.out kr_) ?_
 go_upto_if 26 with (fail)
 (try clear a6 a7)
 (try clear a8 a9)
 have H:=av.out
 clear av
 by_cases ap:ao=true
 rotate_left
 ·replace ap:=Bool.eq_false_iff.mpr ap
  subst ap
  rw [if_neg nf_] at H
  obtain rfl:=oi_ H
  go_wp2
  go_ret
  exact ⟨tq_1,th_⟩
 subst ap
 rw [if_pos rfl] at H
 have H':=m_ H
 clear H
 go_wp2
 go_roundg k1
 case measure=>have:=HK1.out;omega
 case rel=>exact ⟨(wrap64 (a5+1)),tq_3,H',⟨tq_14⟩,⟨th_⟩⟩

def laws_eqInode.f (k:Nat) (a5:Int) (a6:Int) (a7:Int) (a8:ByteArray) (a9:List (S86)) (aa:List (S90)) (ab:Int) (ac:Int) (ae:Int) (af:ByteArray) (ag:List (S86)) (ah:List (S90)):Option (Bool):=if a5=ab then (if a6=ac then (if a7=ae then (if a8.toList=af.toList then ((laws_eqRecS.f k a9 ag).bind fun ai=>(if ai=true then ((laws_eqEntryS.f k aa ah).bind fun aj=>(if aj=true then (some true) else (some false))) else (some false))) else (some false)) else (some false)) else (some false)) else (some false)
theorem laws_eqInode.calls (k:Nat) (aj:Int) (ak:Int) (al:Int) (am:ByteArray) (an:Option Addr) (ao:Nat) (l0_4:List (S86)) (ap:Option Addr) (aq:Nat) (ab:List (S90)) (ar:Int) (au:Int) (av:Int) (aw:ByteArray) (ax:Option Addr) (ay:Nat) (ac:List (S86)) (az:Option Addr) (b0:Nat) (ae:List (S90)) (r:Bool) (w:World) (b1:Kd.C k86 w an l0_4.length l0_4) (b2:l0_4.length≤ao) (b3:Kd.C k90 w ap ab.length ab) (b4:ab.length≤aq) (b5:Kd.C k86 w ax ac.length ac) (b6:ac.length≤ay) (b7:Kd.C k90 w az ae.length ae) (b8:ae.length≤b0) (h:laws_eqInode.f k aj ak al am l0_4 ab ar au av aw ac ae=some r) :
  Calls Tryz.prog 66 #[.agg #[.int .i64 aj,.int .i64 ak,.int .i64 al,.string am,.slice an l0_4.length ao,.slice ap ab.length aq],.agg #[.int .i64 ar,.int .i64 au,.int .i64 av,.string aw,.slice ax ac.length ay,.slice az ae.length b0]] w fun e w'=>e=.returned (.bool r)∧Below w.heap.size w w':=by
 have hu62:=Tryz.underlying62
 have HR0_4:=m_ b1
 have bc:=m_ b2
 clear b1 b2
 have HR0_5:=m_ b3
 have bd:=m_ b4
 clear b3 b4
 have be:=m_ b5
 have bf:=m_ b6
 clear b5 b6
 have bg:=m_ b7
 have bh:=m_ b8
 clear b7 b8
 have HB:=m_ (Below.refl w.heap.size w)
 unfold laws_eqInode.f at h
 have H:=h
 clear h
 have ci:=m_ H
 clear H
 go_enter Tryz.func66,Tryz.ntmps66
 go_upto_if 9 with (first|((with_reducible refine gate_dst (N:=2) rfl ?_);refine be_ 2 (cs:=#[.int .i64 aj,.int .i64 ak,.int .i64 al,.string am,.slice an l0_4.length ao,.slice ap ab.length aq]) 62 ?_;intro cj hg w4 hbox hb;have z_:=bx0_ th_ hb hbox hg;clear HB;obtain ⟨HB,a9,ck,cl⟩:=z_;clear hb hbox hg)|((with_reducible refine gate_dst (N:=3) rfl ?_);refine be_ 3 (cs:=#[.int .i64 ar,.int .i64 au,.int .i64 av,.string aw,.slice ax ac.length ay,.slice az ae.length b0]) 62 ?_;intro cm hg w5 hbox hb;have z_:=bx1_ (kb_ a9) th_ hb hbox hg;clear a9 HB;obtain ⟨a9,HB,aa,cn,co,a7,a8⟩:=z_;clear hb hbox hg;obtain ⟨a5,a6⟩:=an2_ a7 a8;have cp:=bb6_ a9.out;have cq:=bb6_ aa.out))
 (try simp only [Act.put,List.setIfInBounds_toArray,List.set_cons_zero,List.set_cons_succ])
 (try clear a5 a6)
 (try clear cp)
 (try clear cq)
 (try clear cp)
 (try clear cq)
 have H:=ci.out
 clear ci
 by_cases c9:aj=ar
 rotate_left
 ·rw [if_neg c9] at H
  have ai:=qc_ c9
  have ch:=qd_ c9
  (first|rw [ai]|(simp only [i64_w,i32_w];rw [ai])|skip)
  obtain rfl:=oi_ H
  go_wp2
  go_ret
  exact ⟨tq_1,th_⟩
 rw [if_pos c9] at H
 have ai:=qa_ c9
 have ch:=qb_ c9
 clear c9
 (first|rw [ai]|(simp only [i64_w,i32_w];rw [ai])|skip)
 have bi:=m_ H
 clear H
 obtain ⟨a5,a6⟩:=an2_ a7 a8
 have bj:=bb6_ a9.out
 have bl:=bb6_ aa.out
 go_upto_if 14 with (fail)
 (try clear a5 a6)
 (try clear bj)
 (try clear bl)
 (try clear bj)
 (try clear bl)
 have H:=bi.out
 clear bi
 by_cases b9:ak=au
 rotate_left
 ·rw [if_neg b9] at H
  have af:=qc_ b9
  have bm:=qd_ b9
  (first|rw [af]|(simp only [i64_w,i32_w];rw [af])|skip)
  obtain rfl:=oi_ H
  go_wp2
  go_ret
  exact ⟨tq_1,th_⟩
 rw [if_pos b9] at H
 have af:=qa_ b9
 have bm:=qb_ b9
 clear b9
 (first|rw [af]|(simp only [i64_w,i32_w];rw [af])|skip)
 have bn:=m_ H
 clear H
 obtain ⟨a5,a6⟩:=an2_ a7 a8
 have bo:=bb6_ a9.out
 have bp:=bb6_ aa.out
 go_upto_if 19 with (fail)
 (try clear a5 a6)
 (try clear bo)
 (try clear bp)
 (try clear bo)
 (try clear bp)
 have H:=bn.out
 clear bn
 by_cases ba:al=av
 rotate_left
 ·rw [if_neg ba] at H
  have ag:=qc_ ba
  have bq:=qd_ ba
  (first|rw [ag]|(simp only [i64_w,i32_w];rw [ag])|skip)
  obtain rfl:=oi_ H
  go_wp2
  go_ret
  exact ⟨tq_1,th_⟩
 rw [if_pos ba] at H
 have ag:=qa_ ba
 have bq:=qb_ ba
 clear ba
 (first|rw [ag]|(simp only [i64_w,i32_w];rw [ag])|skip)
 have br:=m_ H
 clear H
 obtain ⟨a5,a6⟩:=an2_ a7 a8
 have bs:=bb6_ a9.out
 have bu:=bb6_ aa.out
 go_upto_if 24 with (fail)
 (try clear a5 a6)
 (try clear bs)
 (try clear bu)
 (try clear bs)
 (try clear bu)
 have H:=br.out
 clear br
 by_cases bb:am.toList=aw.toList
 rotate_left
 ·rw [if_neg bb] at H
  have ah:=qc_ bb
  have bv:=qd_ bb
  (first|rw [ah]|(simp only [i64_w,i32_w];rw [ah])|skip)
  obtain rfl:=oi_ H
  go_wp2
  go_ret
  exact ⟨tq_1,th_⟩
 rw [if_pos bb] at H
 have ah:=qa_ bb
 have bv:=qb_ bb
 clear bb
 (first|rw [ah]|(simp only [i64_w,i32_w];rw [ah])|skip)
 obtain ⟨bw,cr,H⟩:=bd_ H
 have bx:=m_ H
 clear H
 obtain ⟨a5,a6⟩:=an2_ a7 a8
 have bz:=bb6_ a9.out
 have ca:=bb6_ aa.out
 go_upto_if 30 with (first|((with_reducible refine gate_callee (f:=93) rfl ?_);refine goesL_ (some 29) rfl rfl Tryz.func93 kr_ rfl #[.slice an l0_4.length ao,.slice ax ac.length ay] rfl tq_0 ?_;(with_reducible refine (laws_eqRecS.calls k _ _ l0_4 _ _ ac bw _ ?side1 ?side2 ?side3 ?side4 cr.out).mono ?_);(case side1=>exact tq_99);(case side2=>exact bc.out);(case side3=>repeat (first|exact (Kd.C_below be.out HB.out)|(with_reducible refine Kd.C_alloc ?_ _)|(with_reducible refine Kd.C_drewN ?_ _)|(with_reducible refine Kd.C_drew ?_)));(case side4=>exact bf.out);rintro e cu ⟨rfl,hb⟩;refine ⟨_,rfl,?_⟩;have z_:=bw2_ (kb_ a9) (kb_ aa) th_ hb;clear a9 aa HB;obtain ⟨a9,aa,HB⟩:=z_;(try clear hb)))
 (try simp only [Act.put,List.setIfInBounds_toArray,List.set_cons_zero,List.set_cons_succ])
 (try clear a5 a6)
 (try clear bz)
 (try clear ca)
 (try clear bz)
 (try clear ca)
 have H:=bx.out
 clear bx
 by_cases cf:bw=true
 rotate_left
 ·replace cf:=Bool.eq_false_iff.mpr cf
  subst cf
  rw [if_neg nf_] at H
  obtain rfl:=oi_ H
  go_wp2
  go_ret
  exact ⟨tq_1,th_⟩
 subst cf
 rw [if_pos rfl] at H
 obtain ⟨cb,ct,H⟩:=bd_ H
 have cc:=m_ H
 clear H
 obtain ⟨a5,a6⟩:=an2_ a7 a8
 have cd:=bb6_ a9.out
 have ce:=bb6_ aa.out
 go_upto_if 36 with (first|((with_reducible refine gate_callee (f:=94) rfl ?_);refine goesL_ (some 35) rfl rfl Tryz.func94 kr_ rfl #[.slice ap ab.length aq,.slice az ae.length b0] rfl tq_0 ?_;(with_reducible refine (laws_eqEntryS.calls k _ _ ab _ _ ae cb _ ?side1 ?side2 ?side3 ?side4 ct.out).mono ?_);(case side1=>exact tq_98);(case side2=>exact bd.out);(case side3=>repeat (first|exact (Kd.C_below bg.out HB.out)|(with_reducible refine Kd.C_alloc ?_ _)|(with_reducible refine Kd.C_drewN ?_ _)|(with_reducible refine Kd.C_drew ?_)));(case side4=>exact bh.out);rintro e cv ⟨rfl,hb⟩;refine ⟨_,rfl,?_⟩;have z_:=bw2_ (kb_ a9) (kb_ aa) th_ hb;clear a9 aa HB;obtain ⟨a9,aa,HB⟩:=z_;(try clear hb)))
 (try simp only [Act.put,List.setIfInBounds_toArray,List.set_cons_zero,List.set_cons_succ])
 (try clear a5 a6)
 (try clear cd)
 (try clear ce)
 (try clear cd)
 (try clear ce)
 have H:=cc.out
 clear cc
 by_cases cg:cb=true
 ·subst cg
  rw [if_pos rfl] at H
  obtain rfl:=oi_ H
  go_wp2
  go_ret
  exact ⟨tq_1,th_⟩
 replace cg:=Bool.eq_false_iff.mpr cg
 subst cg
 rw [if_neg nf_] at H
 obtain rfl:=oi_ H
 go_wp2
 go_ret
 exact ⟨tq_1,th_⟩

def laws_eqInodeS.l0:Nat→List (S62)→List (S62)→Int→Option (Bool)
 | 0,_,_,_=>none
 | k+1,x0,x1,x5=>if x5 < (x0.length:Int) then (if 0≤x5 then (if x5 < (x1.length:Int) then ((laws_eqInode.f k ((rd_T62 x0 x5).f0) ((rd_T62 x0 x5).f1) ((rd_T62 x0 x5).f2) ((rd_T62 x0 x5).f3) ((rd_T62 x0 x5).f4) ((rd_T62 x0 x5).f5) ((rd_T62 x1 x5).f0) ((rd_T62 x1 x5).f1) ((rd_T62 x1 x5).f2) ((rd_T62 x1 x5).f3) ((rd_T62 x1 x5).f4) ((rd_T62 x1 x5).f5)).bind fun a5=>(if a5=true then (laws_eqInodeS.l0 k x0 x1 (wrap64 (x5+1))) else (some false))) else (none)) else (none)) else (some true)
def laws_eqInodeS.f (k:Nat) (l0:List (S62)) (l1:List (S62)):Option (Bool):=if (l0.length:Int)=(l1.length:Int) then (laws_eqInodeS.l0 k l0 l1 0) else (some false)
def laws_eqInodeS.T6:Bool × List (List Nat × List Nat):=(true,[([],[]),([],[]),([0,1],[0,1]),([2],[2]),([],[]),([],[]),([4,5],[4,5]),([6],[6]),([3,7],[3,7]),([8],[8])])
def laws_eqInodeS.B6:List Nat:=[0,0,3,7,0,0,48,112,255,511]
theorem laws_eqInodeS.tab6:rtab .any (opsOf Tryz.f33 6)=laws_eqInodeS.T6:=by kernel_rfl
theorem laws_eqInodeS.bits6:waitsOk laws_eqInodeS.T6.2 laws_eqInodeS.B6=true:=by kernel_rfl
theorem laws_eqInodeS.calls (k:Nat) (A0:Option Addr) (c0:Nat) (l0:List (S62)) (A1:Option Addr) (c1:Nat) (l1:List (S62)) (r:Bool) (w:World) (hr0:Kd.C k62 w A0 l0.length l0) (hc0:l0.length≤c0) (hr1:Kd.C k62 w A1 l1.length l1) (hc1:l1.length≤c1) (h:laws_eqInodeS.f k l0 l1=some r) :
  Calls Tryz.prog 33 #[.slice A0 l0.length c0,.slice A1 l1.length c1] w fun e w'=>e=.returned (.bool r)∧Below w.heap.size w w':=by
 have hu62:=Tryz.underlying62
 have HR0:=m_ hr0
 have cg:=m_ hc0
 clear hr0 hc0
 have cd:=m_ hr1
 have ch:=m_ hc1
 clear hr1 hc1
 have HB:=m_ (Below.refl w.heap.size w)
 unfold laws_eqInodeS.f at h
 have H:=h
 clear h
 by_cases c3:(l0.length:Int)=(l1.length:Int)
 rotate_left
 ·rw [if_neg c3] at H
  have bs:=qc_ c3
  have bu:=qd_ c3
  have bv:(l0.length == l1.length)=false:=by first|simpa using c3|(simp at c3 ⊢;omega)
  obtain rfl:=oi_ H
  go_enter Tryz.func33,Tryz.ntmps33
  go_wp2
  go_ret
  exact ⟨tq_1,th_⟩
 rw [if_pos c3] at H
 have bs:=qa_ c3
 have bu:=qb_ c3
 have bv:(l0.length == l1.length)=true:=by first|simpa using c3|(simp at c3 ⊢;omega)
 clear c3
 have H':=m_ H
 clear H
 go_enter Tryz.func33,Tryz.ntmps33
 go_wp2
 go_loopg [5] k (fun kq v5 w'=>∃ (a5:Int),v5=.int .i64 a5∧Aside0 (laws_eqInodeS.l0 kq l0 l1 a5=some r)∧Aside0 (kq≤k)∧Aside0 (Below w.heap.size w w'))
 case atStart=>exact ⟨(0),tq_3,H',⟨Nat.le_refl _⟩,⟨th_⟩⟩
 case round =>
 clear H'
 try clear c1;try clear p2;try clear c3;try clear bs;try clear bu;try clear bv
 obtain ⟨a5,rfl,HA,HK1,HB⟩:=hrel
 cases gk with
 | zero=>exact absurd HA.out (by simp [laws_eqInodeS.l0])
 | succ k1 =>
 have H:=HA.out
 clear HA
 simp only [laws_eqInodeS.l0] at H
 by_cases c4:a5 < (l0.length:Int)
 rotate_left
 ·rw [if_neg c4] at H
  have bz:=df_ c4
  clear c4
  obtain rfl:=oi_ H
  go_wp2
  go_ret
  exact ⟨tq_1,th_⟩
 rw [if_pos c4] at H
 have bz:=de_ c4
 clear c4
 obtain ⟨c5,H⟩:=fc_ H
 have ce:=de_ c5
 clear c5
 obtain ⟨c6,H⟩:=fc_ H
 have cf:=de_ c6
 clear c6
 obtain ⟨bw,A7,H⟩:=bd_ H
 have cc:=m_ H
 clear H
 try go_wp2
 have n0_:=m_ (below_drew1 HB.out)
 clear HB
 have HB:=n0_
 clear n0_
 have bo:0≤(a5:Int):=od_ tq_2
 have bp:a5 < (l0.length:Int):=od_ tq_2
 obtain ⟨a6,bb,bc,bd,be,ca,a8,a9,aa,ab,ac,ae,az,b0,b1,b2⟩:=at_T62 HR0.out a5 bo bp
 have al:=ae
 have am:=ac
 have an:=ab
 have ao:=aa
 have ap:=a9
 have aq:=a8
 cases ca
 replace a8:=hx_ HB.out a8
 replace a9:=hx_ HB.out a9
 replace aa:=hx_ HB.out aa
 replace ab:=hx_ HB.out ab
 replace ac:=hx_ HB.out ac
 replace ae:=hx_ HB.out ae
 have b3:=m_ b0
 have bj:=m_ az
 clear b0 az
 have b4:=m_ b2
 have bl:=m_ b1
 clear b2 b1
 replace bo:=eq_true bo
 replace bp:=eq_true bp
 have bq:0≤(a5:Int):=od_ tq_2
 have br:a5 < (l1.length:Int):=od_ tq_2
 obtain ⟨a7,bf,bg,bh,bi,cb,af,ag,ah,ai,aj,ak,b5,b6,b7,b8⟩:=at_T62 cd.out a5 bq br
 have ar:=ak
 have au:=aj
 have av:=ai
 have aw:=ah
 have ax:=ag
 have ay:=af
 cases cb
 replace af:=hx_ HB.out af
 replace ag:=hx_ HB.out ag
 replace ah:=hx_ HB.out ah
 replace ai:=hx_ HB.out ai
 replace aj:=hx_ HB.out aj
 replace ak:=hx_ HB.out ak
 have b9:=m_ b6
 have bm:=m_ b5
 clear b6 b5
 have ba:=m_ b8
 have bn:=m_ b7
 clear b8 b7
 replace bq:=eq_true bq
 replace br:=eq_true br
 refine start_ (n:=10) (S:=fun w'=>w'.cell? (a6.add ((a5).toNat * 6))=some (.int .i64 ((rd_T62 l0 a5).f0))∧w'.cell? ⟨(a6.add ((a5).toNat * 6)).block,(a6.add ((a5).toNat * 6)).off+1,none⟩=some (.int .i64 ((rd_T62 l0 a5).f1))∧w'.cell? ⟨(a6.add ((a5).toNat * 6)).block,(a6.add ((a5).toNat * 6)).off+2,none⟩=some (.int .i64 ((rd_T62 l0 a5).f2))∧w'.cell? ⟨(a6.add ((a5).toNat * 6)).block,(a6.add ((a5).toNat * 6)).off+3,none⟩=some (.string ((rd_T62 l0 a5).f3))∧w'.cell? ⟨(a6.add ((a5).toNat * 6)).block,(a6.add ((a5).toNat * 6)).off+4,none⟩=some (.slice bb ((rd_T62 l0 a5).f4).length bc)∧w'.cell? ⟨(a6.add ((a5).toNat * 6)).block,(a6.add ((a5).toNat * 6)).off+5,none⟩=some (.slice bd ((rd_T62 l0 a5).f5).length be)∧w'.cell? (a7.add ((a5).toNat * 6))=some (.int .i64 ((rd_T62 l1 a5).f0))∧w'.cell? ⟨(a7.add ((a5).toNat * 6)).block,(a7.add ((a5).toNat * 6)).off+1,none⟩=some (.int .i64 ((rd_T62 l1 a5).f1))∧w'.cell? ⟨(a7.add ((a5).toNat * 6)).block,(a7.add ((a5).toNat * 6)).off+2,none⟩=some (.int .i64 ((rd_T62 l1 a5).f2))∧w'.cell? ⟨(a7.add ((a5).toNat * 6)).block,(a7.add ((a5).toNat * 6)).off+3,none⟩=some (.string ((rd_T62 l1 a5).f3))∧w'.cell? ⟨(a7.add ((a5).toNat * 6)).block,(a7.add ((a5).toNat * 6)).off+4,none⟩=some (.slice bf ((rd_T62 l1 a5).f4).length bg)∧w'.cell? ⟨(a7.add ((a5).toNat * 6)).block,(a7.add ((a5).toNat * 6)).off+5,none⟩=some (.slice bh ((rd_T62 l1 a5).f5).length bi)) (ds:=[]) bq_131 kr_ rfl rfl ⟨((HB.out.cell (World.block_lt_of_cell? w _ aq)).trans aq),((HB.out.cell (World.block_lt_of_cell? w _ ap)).trans ap),((HB.out.cell (World.block_lt_of_cell? w _ ao)).trans ao),((HB.out.cell (World.block_lt_of_cell? w _ an)).trans an),((HB.out.cell (World.block_lt_of_cell? w _ am)).trans am),((HB.out.cell (World.block_lt_of_cell? w _ al)).trans al),((HB.out.cell (World.block_lt_of_cell? w _ ay)).trans ay),((HB.out.cell (World.block_lt_of_cell? w _ ax)).trans ax),((HB.out.cell (World.block_lt_of_cell? w _ aw)).trans aw),((HB.out.cell (World.block_lt_of_cell? w _ av)).trans av),((HB.out.cell (World.block_lt_of_cell? w _ au)).trans au),((HB.out.cell (World.block_lt_of_cell? w _ ar)).trans ar)⟩ (fun hHeld=>?_);refine with_tabW laws_eqInodeS.tab6 laws_eqInodeS.bits6 (fun HT_ HW_=>?_)
 generalize wr.drew=w9 at HB b3 b4 b9 ba a8 a9 aa ab ac ae af ag ah ai aj ak hHeld ⊢
 refine yr_ 0 17 bq_132 HT_ ?_
 refine yr_ 1 18 bq_133 HT_ ?_
 refine yr_ 2 19 bq_134 HT_ ?_
 refine yr_ 4 21 bq_135 HT_ ?_
 refine yr_ 5 22 bq_136 HT_ ?_
 refine yr_ 6 23 bq_137 HT_ ?_
 refine tr_ 3 20 bq_138 HT_ HW_ hHeld ?_
 refine tr_ 7 24 bq_139 HT_ HW_ hHeld ?_
 refine one_ (i:=8) (N:=some 25) bq_140 rfl rfl (one_of HT_.out kr_) (by decide) (fun K hK=>?_)
 refine goes_ Tryz.func66 kr_ rfl #[.agg #[.int .i64 ((rd_T62 l0 a5).f0),.int .i64 ((rd_T62 l0 a5).f1),.int .i64 ((rd_T62 l0 a5).f2),.string ((rd_T62 l0 a5).f3),.slice bb ((rd_T62 l0 a5).f4).length bc,.slice bd ((rd_T62 l0 a5).f5).length be],.agg #[.int .i64 ((rd_T62 l1 a5).f0),.int .i64 ((rd_T62 l1 a5).f1),.int .i64 ((rd_T62 l1 a5).f2),.string ((rd_T62 l1 a5).f3),.slice bf ((rd_T62 l1 a5).f4).length bg,.slice bh ((rd_T62 l1 a5).f5).length bi]] (by rfl) rfl rfl tq_0 ?_
 with_reducible refine (laws_eqInode.calls k1 ((rd_T62 l0 a5).f0) ((rd_T62 l0 a5).f1) ((rd_T62 l0 a5).f2) ((rd_T62 l0 a5).f3) _ _ ((rd_T62 l0 a5).f4) _ _ ((rd_T62 l0 a5).f5) ((rd_T62 l1 a5).f0) ((rd_T62 l1 a5).f1) ((rd_T62 l1 a5).f2) ((rd_T62 l1 a5).f3) _ _ ((rd_T62 l1 a5).f4) _ _ ((rd_T62 l1 a5).f5) bw _ ?side1 ?side2 ?side3 ?side4 ?side5 ?side6 ?side7 ?side8 A7.out).mono ?_
 (case side1=>repeat (first|exact (Kd.C_below b3.out HB.out)|(with_reducible refine Kd.C_alloc ?_ _)|(with_reducible refine Kd.C_drewN ?_ _)|(with_reducible refine Kd.C_drew ?_)))
 (case side2=>exact bj.out)
 (case side3=>repeat (first|exact (Kd.C_below b4.out HB.out)|(with_reducible refine Kd.C_alloc ?_ _)|(with_reducible refine Kd.C_drewN ?_ _)|(with_reducible refine Kd.C_drew ?_)))
 (case side4=>exact bl.out)
 (case side5=>repeat (first|exact (Kd.C_below b9.out HB.out)|(with_reducible refine Kd.C_alloc ?_ _)|(with_reducible refine Kd.C_drewN ?_ _)|(with_reducible refine Kd.C_drew ?_)))
 (case side6=>exact bm.out)
 (case side7=>repeat (first|exact (Kd.C_below ba.out HB.out)|(with_reducible refine Kd.C_alloc ?_ _)|(with_reducible refine Kd.C_drewN ?_ _)|(with_reducible refine Kd.C_drew ?_)))
 (case side8=>exact bn.out)
 rintro e ci ⟨rfl,hb⟩
 refine ⟨_,rfl,?_⟩
 have n0_:=m_ (below_step th_ hb)
 clear HB
 have HB:=n0_
 clear n0_
 (try clear hb)
 refine hK.out _ _ ⟨((HB.out.cell (World.block_lt_of_cell? w _ aq)).trans aq),((HB.out.cell (World.block_lt_of_cell? w _ ap)).trans ap),((HB.out.cell (World.block_lt_of_cell? w _ ao)).trans ao),((HB.out.cell (World.block_lt_of_cell? w _ an)).trans an),((HB.out.cell (World.block_lt_of_cell? w _ am)).trans am),((HB.out.cell (World.block_lt_of_cell? w _ al)).trans al),((HB.out.cell (World.block_lt_of_cell? w _ ay)).trans ay),((HB.out.cell (World.block_lt_of_cell? w _ ax)).trans ax),((HB.out.cell (World.block_lt_of_cell? w _ aw)).trans aw),((HB.out.cell (World.block_lt_of_cell? w _ av)).trans av),((HB.out.cell (World.block_lt_of_cell? w _ au)).trans au),((HB.out.cell (World.block_lt_of_cell? w _ ar)).trans ar)⟩ (fun hHeld=>?_)
 clear hK K
 refine nm_ (some 25) ?_
 refine yr_ 9 26 bq_141 HT_ ?_
 refine done_ (done_of HT_.out kr_) ?_
 go_upto_if 26 with (fail)
 (try clear a8 a9 aa ab ac ae)
 (try clear af ag ah ai aj ak)
 have H:=cc.out
 clear cc
 by_cases bx:bw=true
 rotate_left
 ·replace bx:=Bool.eq_false_iff.mpr bx
  subst bx
  rw [if_neg nf_] at H
  obtain rfl:=oi_ H
  go_wp2
  go_ret
  exact ⟨tq_1,th_⟩
 subst bx
 rw [if_pos rfl] at H
 have H':=m_ H
 clear H
 go_wp2
 go_roundg k1
 case measure=>have:=HK1.out;omega
 case rel=>exact ⟨(wrap64 (a5+1)),tq_3,H',⟨tq_14⟩,⟨th_⟩⟩

end Go.Proofs.YtleoknilacjakaaGreatDoor.PFnExactReadPart
