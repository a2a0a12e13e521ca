/- Contracts of Go functions: each call returns what the Lean function beside it computes. Conditions: as each theorem states them. -/
import Derived.Test.YtleoknilacjakaaGreatDoorPkFnExactReadPart
import Derived.Test.YtleoknilacjakaaGreatDoorPFnExactReadPartx3
import Derived.Test.YtleoknilacjakaaGreatDoorPFnExactReadPartx13
import Derived.Test.YtleoknilacjakaaGreatDoorPFnExactReadPartx16
namespace Go.Proofs.YtleoknilacjakaaGreatDoor.PFnExactReadPart
open Go.RowKit Go.Proofs.YtleoknilacjakaaGreatDoorW.PrintWords Go.Proofs.YtleoknilacjakaaGreatDoorW.PrintLast Go.Proofs.YtleoknilacjakaaGreatDoorW.PrintMore
attribute [local go_sem] max2_int min2_int max_two min_two max_three min_three max_four min_four setCell_drewN   -- for this text's walks alone
set_option linter.unusedVariables false
set_option maxHeartbeats 8000000
set_option maxRecDepth 100000
set_option linter.unusedSimpArgs false

mutual
def impl_ReadStates.j0:Nat→List ByteArray→Int→Bool→Option (List Int × Bool)
 | 0,_,_,_=>none
 | k+1,x0,x1,a6=>if a6=true then (some (([]:List Int),false)) else (if 0 < (x0.length:Int) then (if 1 < (x0.length:Int) then (if (rdOf ByteArray.empty x0 0).size+(rdOf ByteArray.empty x0 1).size≤9223372036854775807 then ((some ((rdOf ByteArray.empty x0 0)++(rdOf ByteArray.empty x0 1):ByteArray)).bind fun a5=>(impl_ReadStates.l0 k x0 a5 (([]:List Int)) x1 0)) else (none)) else (none)) else (none))
def impl_ReadStates.l0:Nat→List ByteArray→ByteArray→List Int→Int→Int→Option (List Int × Bool)
 | 0,_,_,_,_,_=>none
 | k+1,x0,x6,x7,a8,a5=>if a5 < a8 then (if 0≤a5 then (if a5 < (x6.size:Int) then (if x7.length < 17592186044416 then (impl_ReadStates.l0 k x0 x6 (x7++[wrap64 (bt x6 a5)]) a8 (wrap64 (a5+1))) else (none)) else (none)) else (none)) else ((impl_StatesWords.f k x7).bind fun a6=>((slices_Equal_string.f k a6 x0).bind fun a7=>(if a7=true then (some (x7,true)) else (some (([]:List Int),false)))))
end
def impl_ReadStates.f (k:Nat) (l0:List ByteArray) (a1:Int):Option (List Int × Bool):=if (l0.length:Int)=2 then (if 0 < (l0.length:Int) then (if ((rdOf ByteArray.empty l0 0).size:Int)=8 then (if 1 < (l0.length:Int) then (if ((rdOf ByteArray.empty l0 1).size:Int)=8 then ((impl_within.f a1 1 12).bind fun a5=>(impl_ReadStates.j0 k l0 a1 (!a5))) else (impl_ReadStates.j0 k l0 a1 true)) else (none)) else (impl_ReadStates.j0 k l0 a1 true)) else (none)) else (impl_ReadStates.j0 k l0 a1 true)
theorem impl_ReadStates.calls (k:Nat) (A0:Option Addr) (c0:Nat) (l0:List ByteArray) (a1:Int) (r1:List Int) (r2:Bool) (w:World) (hr0:Kd.C Kd.string w A0 l0.length l0) (hc0:l0.length≤c0) (h:impl_ReadStates.f k l0 a1=some (r1,r2)) :
  Calls Tryz.prog 61 #[.slice A0 l0.length c0,.int .i64 a1] w fun e w'=>∃ v0_:Value,e=.returned (.tuple #[v0_,.bool r2])∧Kd.R (Kd.int .i64) 3 w' w.heap.size (fun _=>True) v0_ r1∧Below w.heap.size w w':=by
 have HR0:=m_ hr0
 have cc:=m_ hc0
 clear hr0 hc0
 have HB:=m_ (Below.refl w.heap.size w)
 unfold impl_ReadStates.f at h
 have H:=h
 clear h
 have cd:=m_ H
 clear H
 go_enter Tryz.func61,Tryz.ntmps61
 go_upto_region 1 with (fail)
 repeat (go_quiet (fail);go_upto_region 1 with (fail))
 go_cut [30] (fun v30 wc=>∃ (kq:Nat) (aj:Bool),v30=.bool aj∧Aside0 (impl_ReadStates.j0 kq l0 a1 aj=some (r1,r2))∧Aside0 (kq≤k)∧Aside0 (Below w.heap.size w wc))
 case first =>
  have H:=cd.out
  clear cd
  by_cases c4:(l0.length:Int)=2
  rotate_left
  ·rw [if_neg c4] at H
   have ai:=qc_ c4
   have b5:=qd_ c4
   (first|rw [ai]|(simp only [i64_w,i32_w];rw [ai])|skip)
   have H':=m_ H
   clear H
   go_wp2
   repeat (go_quiet (fail);try go_wp2)
   go_meet
   case rel=>exact ⟨_,(true),tq_3,H',⟨tq_12⟩,⟨th_⟩⟩
  rw [if_pos c4] at H
  have ai:=qa_ c4
  have b5:=qb_ c4
  clear c4
  (first|rw [ai]|(simp only [i64_w,i32_w];rw [ai])|skip)
  obtain ⟨c5,H⟩:=fc_ H
  have bc:=de_ c5
  have bd:decide (0 < l0.length)=true:=de_ (by omega)
  clear c5
  by_cases c6:((rdOf ByteArray.empty l0 0).size:Int)=8
  rotate_left
  ·rw [if_neg c6] at H
   have b6:=qc_ c6
   have b7:=qd_ c6
   have H':=m_ H
   clear H
   have aa:0≤(0:Int):=(by omega)
   have ab:0 < (l0.length:Int):=od_ tq_2
   obtain ⟨ak,am,a5⟩:=Kd.at_string HR0.out 0 aa ab
   cases am
   have b3:(0 < l0.length)=True:=eq_true (by omega)
   (try rw [show ((0:Int)).toNat=0 from rfl] at a5)
   (try rw [Addr.add_zero'] at a5)
   replace a5:=hx_ HB.out a5
   replace aa:=eq_true aa
   replace ab:=eq_true ab
   go_wp2
   repeat (go_quiet (fail);try go_wp2)
   go_meet
   case rel=>exact ⟨_,(true),tq_3,H',⟨tq_12⟩,⟨th_⟩⟩
  rw [if_pos c6] at H
  have b6:=qa_ c6
  have b7:=qb_ c6
  clear c6
  obtain ⟨c7,H⟩:=fc_ H
  have be:=de_ c7
  have bf:decide (1 < l0.length)=true:=de_ (by omega)
  clear c7
  by_cases c8:((rdOf ByteArray.empty l0 1).size:Int)=8
  rotate_left
  ·rw [if_neg c8] at H
   have b8:=qc_ c8
   have b9:=qd_ c8
   have H':=m_ H
   clear H
   have aa:0≤(0:Int):=(by omega)
   have ab:0 < (l0.length:Int):=od_ tq_2
   obtain ⟨ak,am,a5⟩:=Kd.at_string HR0.out 0 aa ab
   cases am
   have b3:(0 < l0.length)=True:=eq_true (by omega)
   (try rw [show ((0:Int)).toNat=0 from rfl] at a5)
   (try rw [Addr.add_zero'] at a5)
   replace a5:=hx_ HB.out a5
   replace aa:=eq_true aa
   replace ab:=eq_true ab
   have ag:0≤(1:Int):=(by omega)
   have ah:1 < (l0.length:Int):=od_ tq_2
   obtain ⟨an,ba,a6⟩:=Kd.at_string HR0.out 1 ag ah
   obtain rfl:ak=an:=(by injection ba)
   (try simp only [show (1:Int).toNat=1 from rfl,Nat.reduceMul,Nat.reduceEqDiff,Go.Addr.add,↓reduceIte] at a6)
   have bg:(1 < l0.length)=True:=eq_true (by omega)
   (try rw [show ((1:Int)).toNat=1 from rfl] at a6)
   replace a6:=hx_ HB.out a6
   replace ag:=eq_true ag
   replace ah:=eq_true ah
   go_wp2
   repeat (go_quiet (fail);try go_wp2)
   go_meet
   case rel=>exact ⟨_,(true),tq_3,H',⟨tq_12⟩,⟨th_⟩⟩
  rw [if_pos c8] at H
  have b8:=qa_ c8
  have b9:=qb_ c8
  clear c8
  obtain ⟨ax,A9,H⟩:=bd_ H
  have H':=m_ H
  clear H
  have aa:0≤(0:Int):=(by omega)
  have ab:0 < (l0.length:Int):=od_ tq_2
  obtain ⟨ak,am,a5⟩:=Kd.at_string HR0.out 0 aa ab
  cases am
  have b3:(0 < l0.length)=True:=eq_true (by omega)
  (try rw [show ((0:Int)).toNat=0 from rfl] at a5)
  (try rw [Addr.add_zero'] at a5)
  replace a5:=hx_ HB.out a5
  replace aa:=eq_true aa
  replace ab:=eq_true ab
  have ag:0≤(1:Int):=(by omega)
  have ah:1 < (l0.length:Int):=od_ tq_2
  obtain ⟨an,ba,a6⟩:=Kd.at_string HR0.out 1 ag ah
  obtain rfl:ak=an:=(by injection ba)
  (try simp only [show (1:Int).toNat=1 from rfl,Nat.reduceMul,Nat.reduceEqDiff,Go.Addr.add,↓reduceIte] at a6)
  have bg:(1 < l0.length)=True:=eq_true (by omega)
  (try rw [show ((1:Int)).toNat=1 from rfl] at a6)
  replace a6:=hx_ HB.out a6
  replace ag:=eq_true ag
  replace ah:=eq_true ah
  go_wp2_with (first|(go_at_call 57;(with_reducible refine (impl_within.calls a1 1 12 ax _ A9.out).mono ?_);rintro e w' ⟨rfl,⟨nd,rfl⟩⟩;(try first|exact ⟨rfl,_,World.drewN_drewN _ _ _⟩|exact ⟨rfl,_,Eq.trans (World.drewN_drewN _ _ _) (congrArg (World.drewN _) (Nat.add_assoc _ _ _))⟩)))
  repeat (go_quiet (first|(go_at_call 57;(with_reducible refine (impl_within.calls a1 1 12 ax _ A9.out).mono ?_);rintro e w' ⟨rfl,⟨nd,rfl⟩⟩;(try first|exact ⟨rfl,_,World.drewN_drewN _ _ _⟩|exact ⟨rfl,_,Eq.trans (World.drewN_drewN _ _ _) (congrArg (World.drewN _) (Nat.add_assoc _ _ _))⟩)));try go_wp2_with (first|(go_at_call 57;(with_reducible refine (impl_within.calls a1 1 12 ax _ A9.out).mono ?_);rintro e w' ⟨rfl,⟨nd,rfl⟩⟩;(try first|exact ⟨rfl,_,World.drewN_drewN _ _ _⟩|exact ⟨rfl,_,Eq.trans (World.drewN_drewN _ _ _) (congrArg (World.drewN _) (Nat.add_assoc _ _ _))⟩))))
  go_meet
  case rel=>exact ⟨_,(!ax),tq_3,H',⟨tq_12⟩,⟨th_⟩⟩
 case rest =>
 clear cd
 try clear p2;try clear c4;try clear ai;try clear b5;try clear p4;try clear q4;try clear hx4;try clear cz;try clear c5;try clear bc;try clear bd;try clear c6;try clear b6;try clear b7;try clear c7;try clear be;try clear bf;try clear c8;try clear b8;try clear b9;try clear a5;try clear a6;try clear aa;try clear ag;try clear ab;try clear ah
 obtain ⟨kq,aj,rfl,HA,HJ2,HB⟩:=hcut
 cases kq with
 | zero=>exact absurd HA.out (by simp [impl_ReadStates.j0])
 | succ kj2 =>
 have H:=HA.out
 clear HA
 simp only [impl_ReadStates.j0] at H
 by_cases bh:aj=true
 ·subst bh
  rw [if_pos rfl] at H
  simp only [Option.some.injEq,Prod.mk.injEq] at H
  obtain ⟨rfl,rfl⟩:=H
  go_wp2
  repeat (go_quiet (fail);try go_wp2)
  go_ret2
  exact ⟨_,tq_1,tq_5,th_⟩
 replace bh:=Bool.eq_false_iff.mpr bh
 subst bh
 rw [if_neg nf_] at H
 obtain ⟨ce,H⟩:=fc_ H
 have bi:=de_ ce
 have bj:decide (0 < l0.length)=true:=de_ (by omega)
 clear ce
 obtain ⟨cf,H⟩:=fc_ H
 have bl:=de_ cf
 have bm:decide (1 < l0.length)=true:=de_ (by omega)
 clear cf
 obtain ⟨bn,H⟩:=fc_ H
 have bo:=eq_true bn
 have bp:=de_ bn
 try have bq:(9223372036854775807 < (rdOf ByteArray.empty l0 0).size+(rdOf ByteArray.empty l0 1).size)=False:=eq_false (Nat.not_lt.2 bn)
 clear bn
 obtain ⟨ac,b4⟩:∃ y_:ByteArray,((rdOf ByteArray.empty l0 0)++(rdOf ByteArray.empty l0 1))=y_:=⟨_,rfl⟩
 replace H:(impl_ReadStates.l0 kj2 l0 ac (([]:List Int)) a1 0)=some (r1,r2):=by rw [← b4];exact (Option.bind_some _ _).symm.trans H
 (try simp only [Int.toNat_natCast] at b4)
 obtain ⟨br,ao⟩:∃ y_:List Int,y_=(([]:List Int)):=⟨_,rfl⟩
 replace H:(impl_ReadStates.l0 kj2 l0 ac br a1 0)=some (r1,r2):=rh_ ao H
 have af:=m_ ao
 clear ao
 have H':=m_ H
 clear H
 have ay:0≤(0:Int):=(by omega)
 have az:0 < (l0.length:Int):=od_ tq_2
 obtain ⟨bs,cg,a8⟩:=Kd.at_string HR0.out 0 ay az
 cases cg
 have cl:(0 < l0.length)=True:=eq_true (by omega)
 (try rw [show ((0:Int)).toNat=0 from rfl] at a8)
 (try rw [Addr.add_zero'] at a8)
 replace a8:=hx_ HB.out a8
 replace ay:=eq_true ay
 replace az:=eq_true az
 have b0:0≤(1:Int):=(by omega)
 have b1:1 < (l0.length:Int):=od_ tq_2
 obtain ⟨bu,ch,a9⟩:=Kd.at_string HR0.out 1 b0 b1
 obtain rfl:bs=bu:=(by injection ch)
 (try simp only [show (1:Int).toNat=1 from rfl,Nat.reduceMul,Nat.reduceEqDiff,Go.Addr.add,↓reduceIte] at a9)
 have cm:(1 < l0.length)=True:=eq_true (by omega)
 (try rw [show ((1:Int)).toNat=1 from rfl] at a9)
 replace a9:=hx_ HB.out a9
 replace b0:=eq_true b0
 replace b1:=eq_true b1
 go_wp2_with (first|((with_reducible refine gate_dst (N:=38) rfl ?_);(try (refine gate_guard (by rfl) ?_;dsimp only));refine Kd.R_lit (Kd.int .i64) _ 3 ?hg (N:=38) ?hd (xs:=([]:List Int)) (inner:=[]) (ok:=fun _=>True) (okp:=fun _=>True) ?hr ?hp (fun _ hk=>hk) trivial (Below.refl _ _) (Nat.le_refl _) (by simp) ?_;(case hd=>rfl);(case hg=>rfl);(case hr=>first|(go_simp;done)|(go_simp;rfl));(case hp=>exact (Reps.none _ _));intro v476 cn ho15 hb hg_ hnew_;clear hg_ hnew_;(first|rw [← af.out] at ho15|(simp only [Int.reduceToNat] at ho15;rw [← af.out] at ho15));have z_:=p_ (Kd.R_lower ho15 (below_size th_)) <| a_ (below_step th_ hb);clear HB;obtain ⟨ap,HB⟩:=z_;clear hb ho15))
 repeat (go_quiet (first|((with_reducible refine gate_dst (N:=38) rfl ?_);(try (refine gate_guard (by rfl) ?_;dsimp only));refine Kd.R_lit (Kd.int .i64) _ 3 ?hg (N:=38) ?hd (xs:=([]:List Int)) (inner:=[]) (ok:=fun _=>True) (okp:=fun _=>True) ?hr ?hp (fun _ hk=>hk) trivial (Below.refl _ _) (Nat.le_refl _) (by simp) ?_;(case hd=>rfl);(case hg=>rfl);(case hr=>first|(go_simp;done)|(go_simp;rfl));(case hp=>exact (Reps.none _ _));intro v476 cn ho15 hb hg_ hnew_;clear hg_ hnew_;(first|rw [← af.out] at ho15|(simp only [Int.reduceToNat] at ho15;rw [← af.out] at ho15));have z_:=p_ (Kd.R_lower ho15 (below_size th_)) <| a_ (below_step th_ hb);clear HB;obtain ⟨ap,HB⟩:=z_;clear hb ho15));try go_wp2_with (first|((with_reducible refine gate_dst (N:=38) rfl ?_);(try (refine gate_guard (by rfl) ?_;dsimp only));refine Kd.R_lit (Kd.int .i64) _ 3 ?hg (N:=38) ?hd (xs:=([]:List Int)) (inner:=[]) (ok:=fun _=>True) (okp:=fun _=>True) ?hr ?hp (fun _ hk=>hk) trivial (Below.refl _ _) (Nat.le_refl _) (by simp) ?_;(case hd=>rfl);(case hg=>rfl);(case hr=>first|(go_simp;done)|(go_simp;rfl));(case hp=>exact (Reps.none _ _));intro v476 cn ho15 hb hg_ hnew_;clear hg_ hnew_;(first|rw [← af.out] at ho15|(simp only [Int.reduceToNat] at ho15;rw [← af.out] at ho15));have z_:=p_ (Kd.R_lower ho15 (below_size th_)) <| a_ (below_step th_ hb);clear HB;obtain ⟨ap,HB⟩:=z_;clear hb ho15)))
 go_loopg [7,40] kj2 (fun kq v7 v40 w'=>∃ (ae:List Int) (a7:Int),v40=.int .i64 a7∧Aside0 (impl_ReadStates.l0 kq l0 ac ae a1 a7=some (r1,r2))∧Aside0 (kq≤kj2)∧Aside0 (Kd.R (Kd.int .i64) 3 w' w.heap.size (fun _=>True) v7 ae)∧Aside0 (Below w.heap.size w w'))
 case atStart=>exact ⟨(br),(0),tq_3,H',⟨Nat.le_refl _⟩,⟨(raR_ ap)⟩,⟨th_⟩⟩
 case round =>
 clear H'
 try clear c1;try clear p2;try clear c4;try clear ai;try clear b5;try clear p4;try clear q4;try clear hx4;try clear cz;try clear c5;try clear bc;try clear bd;try clear c6;try clear b6;try clear b7;try clear c7;try clear be;try clear bf;try clear c8;try clear b8;try clear b9;try clear bh;try clear ce;try clear bi;try clear bj;try clear cf;try clear bl;try clear bm;try clear bn;try clear bo;try clear bp;try clear bq;try clear a5;try clear a6;try clear a8;try clear a9;try clear p2;try clear p4;try clear aa;try clear ag;try clear ay;try clear b0;try clear q4;try clear ab;try clear ah;try clear az;try clear b1
 obtain ⟨ae,a7,rfl,HA,co,HO_7,HB⟩:=hrel
 cases gk with
 | zero=>exact absurd HA.out (by simp [impl_ReadStates.l0])
 | succ k2 =>
 have H:=HA.out
 clear HA
 simp only [impl_ReadStates.l0] at H
 by_cases bb:a7 < a1
 ·rw [if_pos bb] at H
  have bv:=de_ bb
  clear bb
  obtain ⟨cp,H⟩:=fc_ H
  have cq:=de_ cp
  clear cp
  obtain ⟨cr,H⟩:=fc_ H
  have ct:=de_ cr
  clear cr
  obtain ⟨cu,H⟩:=fc_ H
  have aq:=m_ cu
  clear cu
  obtain ⟨bw,ar⟩:∃ y_:List Int,y_=(ae++[wrap64 (bt ac a7)]):=⟨_,rfl⟩
  replace H:(impl_ReadStates.l0 k2 l0 ac bw a1 (wrap64 (a7+1)))=some (r1,r2):=rh_ ar H
  have au:=m_ ar
  clear ar
  have H':=m_ H
  clear H
  have cv:0≤(a7:Int):=od_ tq_2
  have cw:a7 < (ac.size:Int):=od_ tq_2
  have hx19:=bt_at ac a7
  replace cv:=eq_true cv
  replace cw:=eq_true cw
  go_wp2_with (first|((with_reducible refine gate_builtin (b:=.append) (xs:=#[.tmp 43,.tmp 48]) rfl ?_);(try (refine gate_guard (by rfl) ?_;dsimp only));at_builtin;refine Kd.R_append (Kd.int .i64) (w0:=w) w.heap.size rfl (.tmp 43) (.tmp 48) 28 3 (.int .i64 0) 8 rfl Tryz.underlying28 info3 rfl (by decide) (by omega) u7 ae (wrap64 (bt ac a7)) [.int .i64 (wrap64 (bt ac a7))] (fun _=>True) (fun _=>False) rfl rfl ?aP (fun _ hk=>hk.elim) ?aF ?aO ?aB ?aS ?aL ?_;(case aP=>exact rfl);(case aB=>exact th_);(case aF=>exact (fun _ _=>trivial));(case aO=>exact (raR_ HO_7));(case aS=>exact (below_size th_));(case aL=>have:=aq.out;omega);intro v479 cx ho hb hg hat;rw [← au.out] at ho;have z_:=p_ (hb) <| a_ (ho);clear HB HO_7;obtain ⟨HB,av⟩:=z_;clear ho hb hg hat))
  repeat (go_quiet (first|((with_reducible refine gate_builtin (b:=.append) (xs:=#[.tmp 43,.tmp 48]) rfl ?_);(try (refine gate_guard (by rfl) ?_;dsimp only));at_builtin;refine Kd.R_append (Kd.int .i64) (w0:=w) w.heap.size rfl (.tmp 43) (.tmp 48) 28 3 (.int .i64 0) 8 rfl Tryz.underlying28 info3 rfl (by decide) (by omega) u7 ae (wrap64 (bt ac a7)) [.int .i64 (wrap64 (bt ac a7))] (fun _=>True) (fun _=>False) rfl rfl ?aP (fun _ hk=>hk.elim) ?aF ?aO ?aB ?aS ?aL ?_;(case aP=>exact rfl);(case aB=>exact th_);(case aF=>exact (fun _ _=>trivial));(case aO=>exact (raR_ HO_7));(case aS=>exact (below_size th_));(case aL=>have:=aq.out;omega);intro v479 cx ho hb hg hat;rw [← au.out] at ho;have z_:=p_ (hb) <| a_ (ho);clear HB HO_7;obtain ⟨HB,av⟩:=z_;clear ho hb hg hat));try go_wp2_with (first|((with_reducible refine gate_builtin (b:=.append) (xs:=#[.tmp 43,.tmp 48]) rfl ?_);(try (refine gate_guard (by rfl) ?_;dsimp only));at_builtin;refine Kd.R_append (Kd.int .i64) (w0:=w) w.heap.size rfl (.tmp 43) (.tmp 48) 28 3 (.int .i64 0) 8 rfl Tryz.underlying28 info3 rfl (by decide) (by omega) u7 ae (wrap64 (bt ac a7)) [.int .i64 (wrap64 (bt ac a7))] (fun _=>True) (fun _=>False) rfl rfl ?aP (fun _ hk=>hk.elim) ?aF ?aO ?aB ?aS ?aL ?_;(case aP=>exact rfl);(case aB=>exact th_);(case aF=>exact (fun _ _=>trivial));(case aO=>exact (raR_ HO_7));(case aS=>exact (below_size th_));(case aL=>have:=aq.out;omega);intro v479 cx ho hb hg hat;rw [← au.out] at ho;have z_:=p_ (hb) <| a_ (ho);clear HB HO_7;obtain ⟨HB,av⟩:=z_;clear ho hb hg hat)))
  go_roundg k2
  case measure=>have:=HJ2.out;have:=co.out;omega
  case rel=>exact ⟨(bw),(wrap64 (a7+1)),tq_3,H',⟨(by have:=HJ2.out;have:=co.out;omega)⟩,⟨(raR_ av)⟩,⟨th_⟩⟩
 rw [if_neg bb] at H
 have bv:=df_ bb
 clear bb
 obtain ⟨al,ci,H⟩:=bd_ H
 obtain ⟨b2,cj,H⟩:=bd_ H
 have bx:=m_ H
 clear H
 obtain ⟨d0,d1,ck⟩:=Kd.R_slice HO_7.out
 subst ck
 go_upto_if 55 with (first|(go_at_call 85;(with_reducible refine (impl_StatesWords.calls k2 _ _ ae al _ ?side1 ?side2 ci.out).mono ?_);(case side1=>exact tq_15);(case side2=>exact (Kd.R_reads' HO_7.out).2.1);rintro e cy ⟨v482,rfl,ho0,hb⟩;have z_:=p_ (Kd.R_below (raR_ HO_7) hb) <| p_ (Kd.R_lower ho0 (below_size th_)) <| a_ (below_step th_ hb);clear HO_7 HB;obtain ⟨HO_7,HO483,HB⟩:=z_;(try clear hb);(try clear hk);(try clear ho0);obtain ⟨bz,ca,aw⟩:=Kd.R_slice HO483.out;subst aw)|(go_at_call 84;(with_reducible refine (slices_Equal_string.calls k2 _ _ al _ _ l0 b2 _ ?side1 ?side2 ?side3 ?side4 cj.out).mono ?_);(case side1=>exact tq_64);(case side2=>exact (Kd.R_reads' HO483.out).2.1);(case side3=>exact tq_11);(case side4=>exact cc.out);rintro e w' ⟨rfl,⟨nd,rfl⟩⟩;(try first|exact ⟨rfl,_,World.drewN_drewN _ _ _⟩|exact ⟨rfl,_,Eq.trans (World.drewN_drewN _ _ _) (congrArg (World.drewN _) (Nat.add_assoc _ _ _))⟩)))
 repeat (go_quiet (first|(go_at_call 85;(with_reducible refine (impl_StatesWords.calls k2 _ _ ae al _ ?side1 ?side2 ci.out).mono ?_);(case side1=>exact tq_15);(case side2=>exact (Kd.R_reads' HO_7.out).2.1);rintro e cy ⟨v482,rfl,ho0,hb⟩;have z_:=p_ (Kd.R_below (raR_ HO_7) hb) <| p_ (Kd.R_lower ho0 (below_size th_)) <| a_ (below_step th_ hb);clear HO_7 HB;obtain ⟨HO_7,HO483,HB⟩:=z_;(try clear hb);(try clear ho0);obtain ⟨bz,ca,aw⟩:=Kd.R_slice HO483.out;subst aw)|(go_at_call 84;(with_reducible refine (slices_Equal_string.calls k2 _ _ al _ _ l0 b2 _ ?side1 ?side2 ?side3 ?side4 cj.out).mono ?_);(case side1=>exact tq_64);(case side2=>exact (Kd.R_reads' HO483.out).2.1);(case side3=>exact tq_11);(case side4=>exact cc.out);rintro e w' ⟨rfl,⟨nd,rfl⟩⟩;(try first|exact ⟨rfl,_,World.drewN_drewN _ _ _⟩|exact ⟨rfl,_,Eq.trans (World.drewN_drewN _ _ _) (congrArg (World.drewN _) (Nat.add_assoc _ _ _))⟩)));go_upto_if 55 with (first|(go_at_call 85;(with_reducible refine (impl_StatesWords.calls k2 _ _ ae al _ ?side1 ?side2 ci.out).mono ?_);(case side1=>exact tq_15);(case side2=>exact (Kd.R_reads' HO_7.out).2.1);rintro e cy ⟨v482,rfl,ho0,hb⟩;have z_:=p_ (Kd.R_below (raR_ HO_7) hb) <| p_ (Kd.R_lower ho0 (below_size th_)) <| a_ (below_step th_ hb);clear HO_7 HB;obtain ⟨HO_7,HO483,HB⟩:=z_;(try clear hb);(try clear ho0);obtain ⟨bz,ca,aw⟩:=Kd.R_slice HO483.out;subst aw)|(go_at_call 84;(with_reducible refine (slices_Equal_string.calls k2 _ _ al _ _ l0 b2 _ ?side1 ?side2 ?side3 ?side4 cj.out).mono ?_);(case side1=>exact tq_64);(case side2=>exact (Kd.R_reads' HO483.out).2.1);(case side3=>exact tq_11);(case side4=>exact cc.out);rintro e w' ⟨rfl,⟨nd,rfl⟩⟩;(try first|exact ⟨rfl,_,World.drewN_drewN _ _ _⟩|exact ⟨rfl,_,Eq.trans (World.drewN_drewN _ _ _) (congrArg (World.drewN _) (Nat.add_assoc _ _ _))⟩))))
 (try simp only [Act.put,List.setIfInBounds_toArray,List.set_cons_zero,List.set_cons_succ])
 have H:=bx.out
 clear bx
 by_cases cb:b2=true
 ·subst cb
  rw [if_pos rfl] at H
  simp only [Option.some.injEq,Prod.mk.injEq] at H
  obtain ⟨rfl,rfl⟩:=H
  go_wp2
  repeat (go_quiet (fail);try go_wp2)
  go_ret2
  exact ⟨_,tq_1,(raR_ HO_7),th_⟩
 replace cb:=Bool.eq_false_iff.mpr cb
 subst cb
 rw [if_neg nf_] at H
 simp only [Option.some.injEq,Prod.mk.injEq] at H
 obtain ⟨rfl,rfl⟩:=H
 go_wp2
 repeat (go_quiet (fail);try go_wp2)
 go_ret2
 exact ⟨_,tq_1,tq_5,th_⟩

def impl_readWords.l0:Nat→Int→List ByteArray→Int→Int→ByteArray→List (S78)→Option (List ByteArray)
 | 0,_,_,_,_,_,_=>none
 | k+1,x1,x7,a9,a7,a5,a6=>if a7 < a9 then ((impl_Memory_word.f k a5 a6 (wrap64 (x1+a7))).bind fun a8=>(if x7.length < 8796093022208 then (impl_readWords.l0 k x1 (x7++[a8]) a9 (wrap64 (a7+1)) a5 a6) else (none))) else (some x7)
def impl_readWords.f (k:Nat) (a5:ByteArray) (a6:List (S78)) (a1:Int) (a2:Int):Option (List ByteArray):=impl_readWords.l0 k a1 (([]:List ByteArray)) a2 0 a5 a6
theorem impl_readWords.calls (k:Nat) (a8:ByteArray) (a9:Option Addr) (aa:Nat) (a6:List (S78)) (a1:Int) (a2:Int) (r:List ByteArray) (w:World) (ag:Kd.C k78 w a9 a6.length a6) (ah:a6.length≤aa) (h:impl_readWords.f k a8 a6 a1 a2=some r) :
  Calls Tryz.prog 62 #[.agg #[.string a8,.slice a9 a6.length aa],.int .i64 a1,.int .i64 a2] w fun e w'=>∃ v0_:Value,e=.returned (v0_)∧Kd.R Kd.string 9 w' w.heap.size (fun _=>True) v0_ r∧Below w.heap.size w w':=by
 have hu36:=Tryz.underlying36
 have HR0_1:=m_ ag
 have ak:=m_ ah
 clear ag ah
 have HB:=m_ (Below.refl w.heap.size w)
 unfold impl_readWords.f at h
 have H:=h
 clear h
 obtain ⟨al,ab⟩:∃ y_:List ByteArray,y_=(([]:List ByteArray)):=⟨_,rfl⟩
 replace H:(impl_readWords.l0 k a1 al a2 0 a8 a6)=some r:=rh_ ab H
 have ai:=m_ ab
 clear ab
 have H':=m_ H
 clear H
 go_enter Tryz.func62,Tryz.ntmps62
 go_wp2_with (first|((with_reducible refine gate_dst (N:=3) rfl ?_);refine be_ 3 (cs:=#[.string a8,.slice a9 a6.length aa]) 36 ?_;intro aj hg w4 hbox hb;have z_:=bx0_ th_ hb hbox hg;clear HB;obtain ⟨HB,a5,au,av⟩:=z_;clear hb hbox hg)|((with_reducible refine gate_dst (N:=9) rfl ?_);refine Kd.R_lit Kd.string _ 9 ?hg (N:=9) ?hd (xs:=([]:List ByteArray)) (inner:=[]) (ok:=fun _=>True) (okp:=fun _=>True) ?hr ?hp (fun _ hk=>hk) trivial (Below.refl _ _) (Nat.le_refl _) (by simp) ?_;(case hd=>rfl);(case hg=>rfl);(case hr=>first|(go_simp;done)|(go_simp;rfl));(case hp=>exact (Reps.none _ _));intro v487 w5 ho6 hb hg_ hnew_;clear hg_ hnew_;(first|rw [← ai.out] at ho6|(simp only [Int.reduceToNat] at ho6;rw [← ai.out] at ho6));have z_:=p_ (Kd.R_lower ho6 (below_size th_)) <| bw1_ (kb_ a5) th_ hb;clear a5 HB;obtain ⟨am,a5,HB⟩:=z_;clear hb ho6))
 go_loopg [7,11] k (fun kq v7 v11 w'=>∃ (ac:List ByteArray) (a7:Int),v11=.int .i64 a7∧Aside0 (impl_readWords.l0 kq a1 ac a2 a7 a8 a6=some r)∧Aside0 (kq≤k)∧Aside0 (Kd.R Kd.string 9 w' w.heap.size (fun _=>True) v7 ac)∧Aside0 (w'.heap[aj]?=some (.cells #[.string a8,(.slice a9 a6.length aa)] 36 (0,0)))∧Aside0 (Below w.heap.size w w'))
 case atStart=>exact ⟨(al),(0),tq_3,H',⟨Nat.le_refl _⟩,⟨(raR_ am)⟩,⟨(kb_ a5)⟩,⟨th_⟩⟩
 case round =>
 clear H'
 try clear p2;try clear c6
 obtain ⟨ac,a7,rfl,HA,HK1,HO_7,a5,HB⟩:=hrel
 cases gk with
 | zero=>exact absurd HA.out (by simp [impl_readWords.l0])
 | succ k1 =>
 have H:=HA.out
 clear HA
 simp only [impl_readWords.l0] at H
 by_cases c7:a7 < a2
 rotate_left
 ·rw [if_neg c7] at H
  have aq:=df_ c7
  clear c7
  obtain rfl:=oi_ H
  go_wp2
  go_ret
  exact ⟨_,tq_1,(raR_ HO_7),th_⟩
 rw [if_pos c7] at H
 have aq:=de_ c7
 clear c7
 obtain ⟨af,A8,H⟩:=bd_ H
 obtain ⟨c9,H⟩:=fc_ H
 have ar:=m_ c9
 clear c9
 obtain ⟨an,ae⟩:∃ y_:List ByteArray,y_=(ac++[af]):=⟨_,rfl⟩
 replace H:(impl_readWords.l0 k1 a1 an a2 (wrap64 (a7+1)) a8 a6)=some r:=rh_ ae H
 have ao:=m_ ae
 clear ae
 have H':=m_ H
 clear H
 have aw:=bb2_ a5.out
 go_wp2_with (first|((with_reducible refine gate_callee (f:=59) rfl ?_);refine goesL_ (some 19) rfl rfl Tryz.func59 kr_ rfl #[.agg #[.string a8,.slice a9 a6.length aa],.int .i64 (wrap64 (a1+a7))] rfl tq_0 ?_;(with_reducible refine (impl_Memory_word.calls k1 a8 _ _ a6 (wrap64 (a1+a7)) af _ ?side1 ?side2 A8.out).mono ?_);(case side1=>exact tq_4);(case side2=>exact ak.out);rintro e ax ⟨rfl,hb⟩;refine ⟨_,rfl,?_⟩;have z_:=p_ (Kd.R_below (raR_ HO_7) hb) <| bw1_ (kb_ a5) th_ hb;clear HO_7 a5 HB;obtain ⟨HO_7,a5,HB⟩:=z_;(try clear hb))|((with_reducible refine gate_builtin (b:=.append) (xs:=#[.tmp 14,.tmp 20]) rfl ?_);at_builtin;refine Kd.R_append Kd.string (w0:=w) w.heap.size rfl (.tmp 14) (.tmp 20) 55 9 (.string ⟨#[]⟩) 16 rfl Tryz.underlying55 info9 rfl (by decide) (by omega) u7 ac af [.string af] (fun _=>True) (fun _=>False) rfl rfl ?aP (fun _ hk=>hk.elim) ?aF ?aO ?aB ?aS ?aL ?_;(case aP=>exact rfl);(case aB=>exact th_);(case aF=>exact (fun _ _=>trivial));(case aO=>exact (raR_ HO_7));(case aS=>exact (below_size th_));(case aL=>have:=ar.out;omega);intro v491 ay ho hb hg hat;rw [← ao.out] at ho;have z_:=p_ (blk_grown (g:=aj) (o:=.cells #[.string a8,.slice a9 a6.length aa] 36 (0,0)) (kb_ a5) hg (Kd.R_ne HO_7.out a5.out (by decide))) <| p_ (hb) <| a_ (ho);clear a5 HB HO_7;obtain ⟨a5,HB,ap⟩:=z_;clear ho hb hg hat))
 go_roundg k1
 case measure=>have:=HK1.out;omega
 case rel=>exact ⟨(an),(wrap64 (a7+1)),tq_3,H',⟨tq_14⟩,⟨(raR_ ap)⟩,⟨(kb_ a5)⟩,⟨th_⟩⟩

def impl_statesAt.f (a5:Int) (a6:Int) (a7:Int) (a8:Int) (a1:Int):Option (Int):=(impl_inPart.f a5 a6 a7 a8 a1 true 36).bind fun a9=>(some a9)
theorem impl_statesAt.calls (a6:Int) (a7:Int) (a8:Int) (a9:Int) (a1:Int) (r:Int) (w:World) (h:impl_statesAt.f a6 a7 a8 a9 a1=some r) :
  Calls Tryz.prog 63 #[.agg #[.int .i64 a6,.int .i64 a7,.int .i64 a8,.int .i64 a9],.int .i64 a1] w fun e w'=>e=.returned (.int .i64 r)∧Below w.heap.size w w':=by
 have hu38:=Tryz.underlying38
 have HB:=m_ (Below.refl w.heap.size w)
 unfold impl_statesAt.f at h
 have H:=h
 clear h
 obtain ⟨aa,A3,H⟩:=bd_ H
 obtain rfl:=oi_ H
 go_enter Tryz.func63,Tryz.ntmps63
 go_wp2_with (first|((with_reducible refine gate_dst (N:=2) rfl ?_);refine be_ 2 (cs:=#[.int .i64 a6,.int .i64 a7,.int .i64 a8,.int .i64 a9]) 38 ?_;intro ab hg w4 hbox hb;have z_:=bx0_ th_ hb hbox hg;clear HB;obtain ⟨HB,a5,ac,ae⟩:=z_;clear hb hbox hg;have af:=bb4_ a5.out)|((with_reducible refine gate_callee (f:=83) rfl ?_);refine goesL_ (some 7) rfl rfl Tryz.func83 kr_ rfl #[.agg #[.int .i64 a6,.int .i64 a7,.int .i64 a8,.int .i64 a9],.int .i64 a1,.bool true,.int .i64 36] rfl tq_0 ?_;(with_reducible refine (impl_inPart.calls a6 a7 a8 a9 a1 true 36 aa _ A3.out).mono ?_);rintro e w6 ⟨rfl,hb⟩;refine ⟨_,rfl,?_⟩;have z_:=bw1_ (kb_ a5) th_ hb;clear a5 HB;obtain ⟨a5,HB⟩:=z_;(try clear hb)))
 go_ret
 exact ⟨tq_1,th_⟩

def impl_ReadInode_1.f (a0:ByteArray):Option (Bool):=some ((a0.size:Int) != 8)
theorem impl_ReadInode_1.calls (a0:ByteArray) (r:Bool) (w:World) (h:impl_ReadInode_1.f a0=some r) :
  Calls Tryz.prog 87 #[.string a0] w fun e w'=>e=.returned (.bool r)∧Drawn0 w w':=by
 unfold impl_ReadInode_1.f at h
 have H:=h
 clear h
 obtain rfl:=oi_ H
 go_enter Tryz.func87,Tryz.ntmps87
 go_wp2
 go_ret
 exact ⟨tq_3,tq_8⟩

def slices_IndexFunc_string.l0:Nat→List ByteArray→Int→Int→Option (Int)
 | 0,_,_,_=>none
 | k+1,x0,x7,x8=>if x8 < x7 then (if 0≤x8 then (if x8 < (x0.length:Int) then ((impl_ReadInode_1.f (rdOf ByteArray.empty x0 x8)).bind fun a5=>(if a5=true then (some x8) else (slices_IndexFunc_string.l0 k x0 x7 (wrap64 (x8+1))))) else (none)) else (none)) else (some (-1))
def slices_IndexFunc_string.f (k:Nat) (l0:List ByteArray) (a1:Unit):Option (Int):=slices_IndexFunc_string.l0 k l0 (l0.length:Int) 0
theorem slices_IndexFunc_string.calls (k:Nat) (A0:Option Addr) (c0:Nat) (l0:List ByteArray) (a1:Unit) (r:Int) (w:World) (hr0:Kd.C Kd.string w A0 l0.length l0) (hc0:l0.length≤c0) (h:slices_IndexFunc_string.f k l0 a1=some r) :
  Calls Tryz.prog 104 #[.slice A0 l0.length c0,.func (.func 87) #[] #[]] w fun e w'=>e=.returned (.int .i64 r)∧Below w.heap.size w w':=by
 have HR0:=m_ hr0
 have ag:=m_ hc0
 clear hr0 hc0
 have HB:=m_ (Below.refl w.heap.size w)
 unfold slices_IndexFunc_string.f at h
 have H:=h
 clear h
 have H':=m_ H
 clear H
 go_enter Tryz.func104,Tryz.ntmps104
 go_wp2
 go_loopg [8] k (fun kq v8 w'=>∃ (x8_1:Int),v8=.int .i64 x8_1∧Aside0 (slices_IndexFunc_string.l0 kq l0 (l0.length:Int) x8_1=some r)∧Aside0 (kq≤k)∧Aside0 (Below w.heap.size w w'))
 case atStart=>exact ⟨(0),tq_3,H',⟨Nat.le_refl _⟩,⟨th_⟩⟩
 case round =>
 clear H'
 try clear c1;try clear p2
 obtain ⟨x8_1,rfl,HA,HK1,HB⟩:=hrel
 cases gk with
 | zero=>exact absurd HA.out (by simp [slices_IndexFunc_string.l0])
 | succ k1 =>
 have H:=HA.out
 clear HA
 simp only [slices_IndexFunc_string.l0] at H
 by_cases c3:x8_1 < (l0.length:Int)
 rotate_left
 ·rw [if_neg c3] at H
  have a9:=df_ c3
  clear c3
  obtain rfl:=oi_ H
  go_wp2
  go_ret
  exact ⟨tq_1,th_⟩
 rw [if_pos c3] at H
 have a9:=de_ c3
 clear c3
 obtain ⟨c4,H⟩:=fc_ H
 have ae:=de_ c4
 clear c4
 obtain ⟨c5,H⟩:=fc_ H
 have af:=de_ c5
 clear c5
 obtain ⟨a8,A6,H⟩:=bd_ H
 have ab:=m_ H
 clear H
 have a6:0≤(x8_1:Int):=od_ tq_2
 have a7:x8_1 < (l0.length:Int):=od_ tq_2
 obtain ⟨ac,aa,a5⟩:=Kd.at_string HR0.out x8_1 a6 a7
 cases aa
 replace a5:=hx_ HB.out a5
 replace a6:=eq_true a6
 replace a7:=eq_true a7
 go_upto_if 16 with (first|(go_at_call 87;(with_reducible refine (impl_ReadInode_1.calls (rdOf ByteArray.empty l0 x8_1) a8 _ A6.out).mono ?_);rintro e w' ⟨rfl,⟨nd,rfl⟩⟩))
 (try simp only [Act.put,List.setIfInBounds_toArray,List.set_cons_zero,List.set_cons_succ])
 (try clear a5)
 have H:=ab.out
 clear ab
 by_cases c8:a8=true
 ·subst c8
  rw [if_pos rfl] at H
  obtain rfl:=oi_ H
  go_wp2
  go_ret
  exact ⟨tq_1,th_⟩
 replace c8:=Bool.eq_false_iff.mpr c8
 subst c8
 rw [if_neg nf_] at H
 have H':=m_ H
 clear H
 go_wp2
 go_roundg k1
 case measure=>have:=HK1.out;omega
 case rel=>exact ⟨(wrap64 (x8_1+1)),tq_3,H',⟨tq_14⟩,⟨th_⟩⟩

def slices_ContainsFunc_string.f (k:Nat) (l0:List ByteArray) (a1:Unit):Option (Bool):=(slices_IndexFunc_string.f k l0 a1).bind fun a5=>(some (decide (a5 ≥ 0)))
theorem slices_ContainsFunc_string.calls (k:Nat) (A0:Option Addr) (c0:Nat) (l0:List ByteArray) (a1:Unit) (r:Bool) (w:World) (hr0:Kd.C Kd.string w A0 l0.length l0) (hc0:l0.length≤c0) (h:slices_ContainsFunc_string.f k l0 a1=some r) :
  Calls Tryz.prog 86 #[.slice A0 l0.length c0,.func (.func 87) #[] #[]] w fun e w'=>e=.returned (.bool r)∧Below w.heap.size w w':=by
 have HR0:=m_ hr0
 have a6:=m_ hc0
 clear hr0 hc0
 have HB:=m_ (Below.refl w.heap.size w)
 unfold slices_ContainsFunc_string.f at h
 have H:=h
 clear h
 obtain ⟨a5,A3,H⟩:=bd_ H
 obtain rfl:=oi_ H
 go_enter Tryz.func86,Tryz.ntmps86
 go_wp2_with (first|((with_reducible refine gate_callee (f:=104) rfl ?_);refine goesL_ (some 7) rfl rfl Tryz.func104 kr_ rfl #[.slice A0 l0.length c0,.func (.func 87) #[] #[]] rfl tq_0 ?_;(with_reducible refine (slices_IndexFunc_string.calls k _ _ l0 a1 a5 _ ?side1 ?side2 A3.out).mono ?_);(case side1=>exact tq_24);(case side2=>exact a6.out);rintro e w4 ⟨rfl,hb⟩;refine ⟨_,rfl,?_⟩;have n0_:=m_ (below_step th_ hb);clear HB;have HB:=n0_;clear n0_;(try clear hb)))
 go_ret
 exact ⟨tq_1,th_⟩

def impl_zeroWord.f :Option (ByteArray):=(impl_padded.f (⟨#[]⟩:ByteArray) 8).bind fun a5=>(some a5)
theorem impl_zeroWord.calls  (r:ByteArray) (w:World) (h:impl_zeroWord.f =some r) :
  Calls Tryz.prog 88 #[] w fun e w'=>e=.returned (.string r)∧Below w.heap.size w w':=by
 have HB:=m_ (Below.refl w.heap.size w)
 unfold impl_zeroWord.f at h
 have H:=h
 clear h
 obtain ⟨a5,A1,H⟩:=bd_ H
 obtain rfl:=oi_ H
 go_enter Tryz.func88,Tryz.ntmps88
 go_wp2_with (first|((with_reducible refine gate_callee (f:=103) rfl ?_);refine goesL_ (some 1) rfl rfl Tryz.func103 kr_ rfl #[.string (⟨#[]⟩:ByteArray),.int .i64 8] rfl tq_0 ?_;(with_reducible refine (impl_padded.calls (⟨#[]⟩:ByteArray) 8 a5 _ A1.out).mono ?_);rintro e w2 ⟨rfl,hb⟩;refine ⟨_,rfl,?_⟩;have n0_:=m_ (below_step th_ hb);clear HB;have HB:=n0_;clear n0_;(try clear hb)))
 go_ret
 exact ⟨tq_1,th_⟩

def impl_RecWord.j0:Nat→Bool→Int→Int→ByteArray→Option (ByteArray)
 | 0,_,_,_,_=>none
 | k+1,aa,a6,a7,a5=>if aa=true then (some (⟨#[]⟩:ByteArray)) else ((impl_NumText.f k a6 1).bind fun a8=>((impl_NumText.f k a7 3).bind fun a9=>(if a8.size+a9.size≤9223372036854775807 then (if (a8++a9).size+a5.size≤9223372036854775807 then (some ((a8++a9)++a5)) else (none)) else (none))))
def impl_RecWord.f (k:Nat) (a5:Int) (a6:Int) (a7:ByteArray):Option (ByteArray):=(impl_within.f a5 1 12).bind fun a8=>(if a8=true then ((impl_within.f a6 1 16777215).bind fun a9=>(if a9=true then (impl_RecWord.j0 k ((a7.size:Int) != 4) a5 a6 a7) else (impl_RecWord.j0 k true a5 a6 a7))) else (impl_RecWord.j0 k true a5 a6 a7))
def impl_RecWord.T3:Bool × List (List Nat × List Nat):=(true,[([],[]),([0],[0]),([1],[1]),([],[]),([3],[3]),([4,2],[4]),([2,5],[2,5]),([],[]),([7],[7]),([6,8],[6,8]),([9,5,0,1,2,3,4,5,6,7,8,9],[9])])
def impl_RecWord.B3:List Nat:=[0,1,3,0,8,31,63,0,128,511,1023]
theorem impl_RecWord.tab3:rtab .any (opsOf Tryz.f105 3)=impl_RecWord.T3:=by kernel_rfl
theorem impl_RecWord.bits3:waitsOk impl_RecWord.T3.2 impl_RecWord.B3=true:=by kernel_rfl
theorem impl_RecWord.calls (k:Nat) (a6:Int) (a7:Int) (a8:ByteArray) (r:ByteArray) (w:World) (h:impl_RecWord.f k a6 a7 a8=some r) :
  Calls Tryz.prog 105 #[.agg #[.int .i64 a6,.int .i64 a7,.string a8]] w fun e w'=>e=.returned (.string r)∧Below w.heap.size w w':=by
 have hu86:=Tryz.underlying86
 have HB:=m_ (Below.refl w.heap.size w)
 unfold impl_RecWord.f at h
 have H:=h
 clear h
 have ah:=m_ H
 clear H
 go_enter Tryz.func105,Tryz.ntmps105
 go_upto_region 1 with (first|((with_reducible refine gate_dst (N:=1) rfl ?_);(try (refine gate_guard (by rfl) ?_;dsimp only));refine be_ 1 (cs:=#[.int .i64 a6,.int .i64 a7,.string a8]) 86 ?_;intro a9 hg w3 hbox hb;have z_:=bx0_ th_ hb hbox hg;clear HB;obtain ⟨HB,a5,am,an⟩:=z_;clear hb hbox hg))
 (try simp only [Act.put,List.setIfInBounds_toArray,List.set_cons_zero,List.set_cons_succ])
 go_cut [18] (fun v18 wc=>∃ (kq:Nat) (aa:Bool),v18=.bool aa∧Aside0 (impl_RecWord.j0 kq aa a6 a7 a8=some r)∧Aside0 (kq≤k)∧Aside0 (wc.heap[a9]?=some (.cells #[.int .i64 a6,.int .i64 a7,.string a8] 86 (0,0)))∧Aside0 (Below w.heap.size w wc))
 case first =>
  have H:=ah.out
  clear ah
  obtain ⟨ai,A4,H⟩:=bd_ H
  by_cases c5:ai=true
  rotate_left
  ·replace c5:=Bool.eq_false_iff.mpr c5
   subst c5
   rw [if_neg nf_] at H
   have H':=m_ H
   clear H
   have ae:=bb3_ a5.out
   go_wp2_with (first|((with_reducible refine gate_callee (f:=57) rfl ?_);refine goesL_ (some 5) rfl rfl Tryz.func57 kr_ rfl #[.int .i64 a6,.int .i64 1,.int .i64 12] rfl tq_0 ?_;(with_reducible refine (impl_within.calls a6 1 12 false _ A4.out).mono ?_);rintro e w' ⟨rfl,⟨nd,rfl⟩⟩;refine ⟨_,rfl,?_⟩))
   go_meet
   case rel=>exact ⟨_,(true),tq_3,H',⟨tq_12⟩,⟨(kb_ a5)⟩,⟨th_⟩⟩
  subst c5
  rw [if_pos rfl] at H
  obtain ⟨aj,A6,H⟩:=bd_ H
  by_cases c7:aj=true
  ·subst c7
   rw [if_pos rfl] at H
   have H':=m_ H
   clear H
   have ao:=bb3_ a5.out
   go_wp2_with (first|((with_reducible refine gate_callee (f:=57) rfl ?_);refine goesL_ (some 5) rfl rfl Tryz.func57 kr_ rfl #[.int .i64 a6,.int .i64 1,.int .i64 12] rfl tq_0 ?_;(with_reducible refine (impl_within.calls a6 1 12 true _ A4.out).mono ?_);rintro e w' ⟨rfl,⟨nd,rfl⟩⟩;refine ⟨_,rfl,?_⟩)|(go_at_call 57;(with_reducible refine (impl_within.calls a7 1 16777215 true _ A6.out).mono ?_);rintro e w' ⟨rfl,⟨nd,rfl⟩⟩))
   go_meet
   case rel=>exact ⟨_,(((a8.size:Int) != 4)),tq_3,H',⟨tq_12⟩,⟨(kb_ a5)⟩,⟨th_⟩⟩
  replace c7:=Bool.eq_false_iff.mpr c7
  subst c7
  rw [if_neg nf_] at H
  have H':=m_ H
  clear H
  have ap:=bb3_ a5.out
  go_wp2_with (first|((with_reducible refine gate_callee (f:=57) rfl ?_);refine goesL_ (some 5) rfl rfl Tryz.func57 kr_ rfl #[.int .i64 a6,.int .i64 1,.int .i64 12] rfl tq_0 ?_;(with_reducible refine (impl_within.calls a6 1 12 true _ A4.out).mono ?_);rintro e w' ⟨rfl,⟨nd,rfl⟩⟩;refine ⟨_,rfl,?_⟩)|(go_at_call 57;(with_reducible refine (impl_within.calls a7 1 16777215 false _ A6.out).mono ?_);rintro e w' ⟨rfl,⟨nd,rfl⟩⟩))
  go_meet
  case rel=>exact ⟨_,(true),tq_3,H',⟨tq_12⟩,⟨(kb_ a5)⟩,⟨th_⟩⟩
 case rest =>
 clear ah
 try clear c1;try clear p2;try clear c5;try clear c7;try clear az;try clear ae;try clear ao;try clear ap;try clear ae;try clear ao;try clear ap
 obtain ⟨kq,aa,rfl,HA,HJ1,a5,HB⟩:=hcut
 cases kq with
 | zero=>exact absurd HA.out (by simp [impl_RecWord.j0])
 | succ kj1 =>
 have H:=HA.out
 clear HA
 simp only [impl_RecWord.j0] at H
 by_cases ag:aa=true
 ·subst ag
  rw [if_pos rfl] at H
  obtain rfl:=oi_ H
  go_wp2
  go_ret
  exact ⟨tq_1,th_⟩
 replace ag:=Bool.eq_false_iff.mpr ag
 subst ag
 rw [if_neg nf_] at H
 obtain ⟨ab,ax,H⟩:=bd_ H
 obtain ⟨ac,ay,H⟩:=bd_ H
 obtain ⟨ak,H⟩:=fc_ H
 have aq:=eq_true ak
 have ar:=de_ ak
 try have au:(9223372036854775807 < ab.size+ac.size)=False:=eq_false (Nat.not_lt.2 ak)
 obtain ⟨al,H⟩:=fc_ H
 have av:=eq_true al
 have aw:=de_ al
 try have af:(9223372036854775807 < (ab++ac).size+a8.size)=False:=eq_false (Nat.not_lt.2 al)
 try have c15b2s:(9223372036854775807 < ab.size+ac.size+a8.size)=False:=by rw [← ByteArray.size_append];exact af
 obtain rfl:=oi_ H
 try go_wp2
 have z_:=dw1_ a5 HB
 clear a5 HB
 obtain ⟨a5,HB⟩:=z_
 refine start_ (n:=11) (S:=fun w'=>w'.cell? ⟨a9,0,none⟩=some (.int .i64 a6)∧w'.cell? ⟨a9,1,none⟩=some (.int .i64 a7)∧w'.cell? ⟨a9,2,none⟩=some (.string a8)) (ds:=[]) bq_70 kr_ rfl rfl (bk3_ a5.out) (fun hHeld=>?_);refine with_tabW impl_RecWord.tab3 impl_RecWord.bits3 (fun HT_ HW_=>?_)
 generalize wc.drew=b0 at a5 HB hHeld ⊢
 refine yr_ 0 19 bq_220 HT_ ?_
 refine yr_ 3 22 bq_150 HT_ ?_
 refine yr_ 7 26 bq_221 HT_ ?_
 refine tr_ 1 20 bq_222 HT_ HW_ hHeld ?_
 refine tr_ 4 23 bq_223 HT_ HW_ hHeld ?_
 refine tr_ 8 27 bq_224 HT_ HW_ hHeld ?_
 refine one_ (i:=2) (N:=some 21) bq_225 rfl rfl (one_of HT_.out kr_) (by decide) (fun K hK=>?_)
 refine goes_ Tryz.func99 kr_ rfl #[.int .i64 a6,.int .i64 1] (by rfl) rfl rfl tq_0 ?_
 with_reducible refine (impl_NumText.calls kj1 a6 1 ab _ ax.out).mono ?_
 rintro e b1 ⟨rfl,hb⟩
 refine ⟨_,rfl,?_⟩
 have z_:=bw1_ (kb_ a5) th_ hb
 clear a5 HB
 obtain ⟨a5,HB⟩:=z_
 (try clear hb)
 refine hK.out _ _ (bk3_ a5.out) (fun hHeld=>?_)
 clear hK K
 refine nm_ (some 21) ?_
 refine one_ (i:=5) (N:=some 24) bq_226 rfl rfl (one_of HT_.out kr_) (by decide) (fun K hK=>?_)
 refine goes_ Tryz.func99 kr_ rfl #[.int .i64 a7,.int .i64 3] (by rfl) rfl rfl tq_0 ?_
 with_reducible refine (impl_NumText.calls kj1 a7 3 ac _ ay.out).mono ?_
 rintro e b2 ⟨rfl,hb⟩
 refine ⟨_,rfl,?_⟩
 have z_:=bw1_ (kb_ a5) th_ hb
 clear a5 HB
 obtain ⟨a5,HB⟩:=z_
 (try clear hb)
 refine hK.out _ _ (bk3_ a5.out) (fun hHeld=>?_)
 clear hK K
 refine nm_ (some 24) ?_
 refine yr_ 6 25 bq_2 HT_ ?_
 refine yr_ 9 28 bq_71 HT_ ?_
 refine yr_ 10 2 bq_72 HT_ ?_
 refine done_ (done_of HT_.out kr_) ?_
 try go_wp2
 go_ret
 exact ⟨tq_1,th_⟩

def impl_ReadRec.f (k:Nat) (a0:ByteArray):Option (Int × Int × ByteArray × Bool):=if (a0.size:Int)=8 then ((impl_NumAt.f k a0 0 1).bind fun a5=>((impl_NumAt.f k a0 1 3).bind fun a6=>(if 4≤(a0.size:Int) then ((impl_RecWord.f k a5.1 a6.1 (a0.extract 4 a0.size)).bind fun a7=>(if a7.toList=a0.toList then (some (a5.1,a6.1,a0.extract 4 a0.size,true)) else (some (0,0,(⟨#[]⟩:ByteArray),false)))) else (none)))) else (some (0,0,(⟨#[]⟩:ByteArray),false))
theorem impl_ReadRec.calls (k:Nat) (a0:ByteArray) (r1:Int) (r2:Int) (r3:ByteArray) (r4:Bool) (w:World) (h:impl_ReadRec.f k a0=some (r1,r2,r3,r4)) :
  Calls Tryz.prog 89 #[.string a0] w fun e w'=>e=.returned (.tuple #[.agg #[.int .i64 r1,.int .i64 r2,.string r3],.bool r4])∧Below w.heap.size w w':=by
 have hu86:=Tryz.underlying86
 have HB:=m_ (Below.refl w.heap.size w)
 unfold impl_ReadRec.f at h
 have H:=h
 clear h
 have ap:=m_ H
 clear H
 go_enter Tryz.func89,Tryz.ntmps89
 go_upto_if 11 with (first|((with_reducible refine gate_dst (N:=2) rfl ?_);refine be_ 2 (cs:=#[.int .i64 0,.int .i64 0,.string (⟨#[]⟩:ByteArray)]) 86 ?_;intro aa hg w3 hbox hb;have z_:=bx0_ th_ hb hbox hg;clear HB;obtain ⟨HB,a5,aq,ar⟩:=z_;clear hb hbox hg))
 (try simp only [Act.put,List.setIfInBounds_toArray,List.set_cons_zero,List.set_cons_succ])
 have H:=ap.out
 clear ap
 by_cases c4:(a0.size:Int)=8
 rotate_left
 ·rw [if_neg c4] at H
  have ae:=qc_ c4
  have al:=qd_ c4
  (first|rw [ae]|(simp only [i64_w,i32_w];rw [ae])|skip)
  simp only [Option.some.injEq,Prod.mk.injEq] at H
  obtain ⟨rfl,rfl,rfl,rfl⟩:=H
  have ax:=bb3_ a5.out
  go_wp2
  refine bodyPost_ret (results_ct rfl _ _ aa 86 #[.int .i64 0,.int .i64 0,.string (⟨#[]⟩:ByteArray)] (0,0) _ rfl tb_ Tryz.underlying86 rfl kr_) rfl ?_
  exact ⟨tq_1,th_⟩
 rw [if_pos c4] at H
 have ae:=qa_ c4
 have al:=qb_ c4
 clear c4
 (first|rw [ae]|(simp only [i64_w,i32_w];rw [ae])|skip)
 obtain ⟨⟨af,am⟩,A5,H⟩:=bd_ H
 try dsimp -simprocs only at H
 obtain ⟨⟨ag,an⟩,A6,H⟩:=bd_ H
 try dsimp -simprocs only at H
 obtain ⟨c7,H⟩:=fc_ H
 have ay:=eq_true c7
 have az:=de_ c7
 clear c7
 obtain ⟨ai,A8,H⟩:=bd_ H
 have au:=m_ H
 clear H
 go_upto_if 31 with (first|((with_reducible refine gate_callee (f:=80) rfl ?_);refine goesL_ (some 15) rfl rfl Tryz.func80 kr_ rfl #[.string a0,.int .i64 0,.int .i64 1] rfl tq_0 ?_;(with_reducible refine (impl_NumAt.calls k a0 0 1 af am _ A5.out).mono ?_);rintro e w' ⟨rfl,⟨nd,rfl⟩⟩;refine ⟨_,rfl,?_⟩;(try (rw [drewN_self w3];generalize hq_:World.drewN w3 _=w3;have z_:=q_ (⟨(by rw [← hq_];exact (kb_ a5))⟩:Aside0 (w3.heap[aa]?=some (.cells #[.int .i64 0,.int .i64 0,.string (⟨#[]⟩:ByteArray)] 86 (0,0)))) <| (⟨tq_74⟩:Aside0 (Below w.heap.size w w3));clear a5 HB hq_;obtain ⟨a5,HB⟩:=z_)))|((with_reducible refine gate_callee (f:=80) rfl ?_);refine goesL_ (some 20) rfl rfl Tryz.func80 kr_ rfl #[.string a0,.int .i64 1,.int .i64 3] rfl tq_0 ?_;(with_reducible refine (impl_NumAt.calls k a0 1 3 ag an _ A6.out).mono ?_);rintro e w' ⟨rfl,⟨nd,rfl⟩⟩;refine ⟨_,rfl,?_⟩;(try (rw [drewN_self w3];generalize hq_:World.drewN w3 _=w3;have z_:=q_ (⟨(by rw [← hq_];exact (kb_ a5))⟩:Aside0 (w3.heap[aa]?=some (.cells #[.int .i64 0,.int .i64 0,.string (⟨#[]⟩:ByteArray)] 86 (0,0)))) <| (⟨tq_74⟩:Aside0 (Below w.heap.size w w3));clear a5 HB hq_;obtain ⟨a5,HB⟩:=z_)))|((with_reducible refine gate_dst (N:=8) rfl ?_);refine be_ 8 (cs:=#[.int .i64 0,.int .i64 0,.string (⟨#[]⟩:ByteArray)]) 86 ?_;intro aj hg b3 hbox hb;have z_:=bx1_ (kb_ a5) th_ hb hbox hg;clear a5 HB;obtain ⟨a5,HB,ab,av,aw,a6,a7⟩:=z_;clear hb hbox hg;obtain ⟨a8,a9⟩:=an2_ a7 a6;have ao:=bb3_ ab.out)|((with_reducible refine gate_callee (f:=105) rfl ?_);refine goesL_ (some 29) rfl rfl Tryz.func105 kr_ rfl #[.agg #[.int .i64 af,.int .i64 ag,.string (a0.extract 4 a0.size)]] rfl tq_0 ?_;(with_reducible refine (impl_RecWord.calls k af ag (a0.extract 4 a0.size) ai _ A8.out).mono ?_);rintro e b4 ⟨rfl,hb⟩;refine ⟨_,rfl,?_⟩;have z_:=p_ (blk_below (g:=aa) (o:=.cells #[.int .i64 0,.int .i64 0,.string (⟨#[]⟩:ByteArray)] 86 (0,0)) (fr_ a5.out a6.out) hb) <| p_ (blk_below (g:=aj) (o:=.cells #[.int .i64 af,.int .i64 ag,.string (a0.extract 4 a0.size)] 86 (0,0)) (pt_ ab.out) hb) <| a_ (below_step th_ hb);clear a5 ab HB;obtain ⟨a5,ab,HB⟩:=z_;(try clear hb)))
 (try simp only [Act.put,List.setIfInBounds_toArray,List.set_cons_zero,List.set_cons_succ])
 (try clear a9 a8)
 (try clear ao)
 have H:=au.out
 clear au
 by_cases ah:ai.toList=a0.toList
 rotate_left
 ·rw [if_neg ah] at H
  have ac:=qc_ ah
  have ak:=qd_ ah
  (first|rw [ac]|(simp only [i64_w,i32_w];rw [ac])|skip)
  simp only [Option.some.injEq,Prod.mk.injEq] at H
  obtain ⟨rfl,rfl,rfl,rfl⟩:=H
  obtain ⟨a9,a8⟩:=an2_ a6 a7
  have b0:=bb3_ a5.out
  go_wp2
  refine bodyPost_ret (results_ct rfl _ _ aa 86 #[.int .i64 0,.int .i64 0,.string (⟨#[]⟩:ByteArray)] (0,0) _ rfl tb_ Tryz.underlying86 rfl kr_) rfl ?_
  exact ⟨tq_1,th_⟩
 rw [if_pos ah] at H
 have ac:=qa_ ah
 have ak:=qb_ ah
 clear ah
 (first|rw [ac]|(simp only [i64_w,i32_w];rw [ac])|skip)
 simp only [Option.some.injEq,Prod.mk.injEq] at H
 obtain ⟨rfl,rfl,rfl,rfl⟩:=H
 obtain ⟨a8,a9⟩:=an2_ a7 a6
 have b1:=bb3_ ab.out
 have b2:=bb3_ a5.out
 go_wp2
 refine bodyPost_ret (results_ct rfl _ _ aa 86 #[.int .i64 af,.int .i64 ag,.string (a0.extract 4 a0.size)] (0,0) _ rfl tb_ Tryz.underlying86 rfl kr_) rfl ?_
 exact ⟨tq_1,th_⟩

def strings_TrimRight.f (a0:ByteArray) (a1:ByteArray):Option (ByteArray):=if a1.data.toList=[0]∧a0.size≤9223372036854775807 then some (⟨(Lib.trimRightB a0.data.toList 0).toArray⟩) else none
theorem strings_TrimRight.calls (a0:ByteArray) (a1:ByteArray) (r:ByteArray) (w:World) (h:strings_TrimRight.f a0 a1=some r) :
  Calls Tryz.prog 106 #[.string a0,.string a1] w fun e w'=>e=.returned (.string r)∧Below w.heap.size w w':=by
 unfold strings_TrimRight.f at h
 split at h
 case isFalse=>cases h
 case isTrue hc =>
 obtain rfl:=oi_ h
 obtain ⟨⟨l_⟩⟩:=a1
 obtain rfl:l_=[0]:=hc.1
 refine (Tryz.strings_TrimRight_one a0 0 (by decide) w hc.2).mono ?_
 rintro e w' ⟨rfl,rfl⟩
 exact ⟨rfl,Below.refl _ _⟩

def impl_NameOk.l0:Nat→ByteArray→Int→Int→Option (Bool)
 | 0,_,_,_=>none
 | k+1,x0,x5,x6=>if x6 < x5 then (if 0≤x6 then (if x6 < (x0.size:Int) then (if (bt x0 x6) ≥ 97 then (if (bt x0 x6)≤122 then (impl_NameOk.l0 k x0 x5 (wrap64 (x6+1))) else (if (bt x0 x6) ≥ 48 then (if ((bt x0 x6)≤57) then (impl_NameOk.l0 k x0 x5 (wrap64 (x6+1))) else (some false)) else (some false))) else (if (bt x0 x6) ≥ 48 then (if ((bt x0 x6)≤57) then (impl_NameOk.l0 k x0 x5 (wrap64 (x6+1))) else (some false)) else (some false))) else (none)) else (none)) else ((impl_within.f (x0.size:Int) 1 7).bind fun a5=>(some a5))
def impl_NameOk.f (k:Nat) (a0:ByteArray):Option (Bool):=impl_NameOk.l0 k a0 (a0.size:Int) 0
theorem impl_NameOk.calls (k:Nat) (a0:ByteArray) (r:Bool) (w:World) (h:impl_NameOk.f k a0=some r) :
  Calls Tryz.prog 122 #[.string a0] w fun e w'=>e=.returned (.bool r)∧Drawn0 w w':=by
 unfold impl_NameOk.f at h
 have H:=h
 clear h
 have H':=m_ H
 clear H
 go_enter Tryz.func122,Tryz.ntmps122
 go_wp2
 go_loopg [6] k (fun kq v6 w'=>∃ (a5:Int),v6=.int .i64 a5∧Aside0 (impl_NameOk.l0 kq a0 (a0.size:Int) a5=some r)∧Aside0 (kq≤k)∧Drawn0 w w')
 case atStart=>exact ⟨(0),tq_3,H',⟨Nat.le_refl _⟩,tq_8⟩
 case round =>
 clear H'
 try clear c1
 obtain ⟨a5,rfl,HA,HK1,⟨m1,rfl⟩⟩:=hrel
 cases gk with
 | zero=>exact absurd HA.out (by simp [impl_NameOk.l0])
 | succ k1 =>
 have H:=HA.out
 clear HA
 simp only [impl_NameOk.l0] at H
 by_cases c2:a5 < (a0.size:Int)
 rotate_left
 ·rw [if_neg c2] at H
  have aj:=df_ c2
  clear c2
  obtain ⟨ak,ar,H⟩:=bd_ H
  obtain rfl:=oi_ H
  go_wp2_with (first|((with_reducible refine gate_callee (f:=57) rfl ?_);refine goesL_ (some 35) rfl rfl Tryz.func57 kr_ rfl #[.int .i64 (a0.size:Int),.int .i64 1,.int .i64 7] rfl tq_0 ?_;(with_reducible refine (impl_within.calls (a0.size:Int) 1 7 ak _ ar.out).mono ?_);rintro e w' ⟨rfl,⟨nd,rfl⟩⟩;refine ⟨_,rfl,?_⟩))
  go_ret
  exact ⟨tq_3,tq_8⟩
 rw [if_pos c2] at H
 have aj:=de_ c2
 clear c2
 obtain ⟨c3,H⟩:=fc_ H
 have au:=de_ c3
 clear c3
 obtain ⟨c4,H⟩:=fc_ H
 have av:=de_ c4
 clear c4
 by_cases c6:(bt a0 a5) ≥ 97
 rotate_left
 ·rw [if_neg c6] at H
  have al:=df_ c6
  clear c6
  by_cases a8:(bt a0 a5) ≥ 48
  rotate_left
  ·rw [if_neg a8] at H
   have ac:=df_ a8
   clear a8
   obtain rfl:=oi_ H
   have p5:0≤(a5:Int):=od_ tq_2
   have q5:a5 < (a0.size:Int):=od_ tq_2
   have hx5:=bt_at a0 a5
   replace p5:=eq_true p5
   replace q5:=eq_true q5
   have ae:0≤(a5:Int):=od_ tq_2
   have af:a5 < (a0.size:Int):=od_ tq_2
   have hx14:=bt_at a0 a5
   replace ae:=eq_true ae
   replace af:=eq_true af
   go_wp2
   go_ret
   exact ⟨tq_3,tq_8⟩
  rw [if_pos a8] at H
  have ac:=de_ a8
  clear a8
  have ag:=m_ H
  clear H
  have p5:0≤(a5:Int):=od_ tq_2
  have q5:a5 < (a0.size:Int):=od_ tq_2
  have hx5:=bt_at a0 a5
  replace p5:=eq_true p5
  replace q5:=eq_true q5
  have ae:0≤(a5:Int):=od_ tq_2
  have af:a5 < (a0.size:Int):=od_ tq_2
  have hx14:=bt_at a0 a5
  replace ae:=eq_true ae
  replace af:=eq_true af
  have an:0≤(a5:Int):=od_ tq_2
  have ao:a5 < (a0.size:Int):=od_ tq_2
  have hx16:=bt_at a0 a5
  replace an:=eq_true an
  replace ao:=eq_true ao
  go_upto_if 31 with (fail)
  have H:=ag.out
  clear ag
  by_cases a9:((bt a0 a5)≤57)
  rotate_left
  ·rw [if_neg a9] at H
   have a6:=df_ a9
   clear a9
   (first|rw [a6]|(simp only [i64_w,i32_w];rw [a6])|skip)
   obtain rfl:=oi_ H
   go_wp2
   go_ret
   exact ⟨tq_3,tq_8⟩
  rw [if_pos a9] at H
  have a6:=de_ a9
  clear a9
  (first|rw [a6]|(simp only [i64_w,i32_w];rw [a6])|skip)
  have H':=m_ H
  clear H
  go_wp2
  go_roundg k1
  case measure=>have:=HK1.out;omega
  case rel=>exact ⟨(wrap64 (a5+1)),tq_3,H',⟨tq_14⟩,tq_8⟩
 rw [if_pos c6] at H
 have al:=de_ c6
 clear c6
 by_cases c8:(bt a0 a5)≤122
 ·rw [if_pos c8] at H
  have am:=de_ c8
  clear c8
  have H':=m_ H
  clear H
  have p5:0≤(a5:Int):=od_ tq_2
  have q5:a5 < (a0.size:Int):=od_ tq_2
  have hx5:=bt_at a0 a5
  replace p5:=eq_true p5
  replace q5:=eq_true q5
  have p7:0≤(a5:Int):=od_ tq_2
  have q7:a5 < (a0.size:Int):=od_ tq_2
  have hx7:=bt_at a0 a5
  replace p7:=eq_true p7
  replace q7:=eq_true q7
  go_wp2
  go_roundg k1
  case measure=>have:=HK1.out;omega
  case rel=>exact ⟨(wrap64 (a5+1)),tq_3,H',⟨tq_14⟩,tq_8⟩
 rw [if_neg c8] at H
 have am:=df_ c8
 clear c8
 by_cases aa:(bt a0 a5) ≥ 48
 rotate_left
 ·rw [if_neg aa] at H
  have ah:=df_ aa
  clear aa
  obtain rfl:=oi_ H
  have p5:0≤(a5:Int):=od_ tq_2
  have q5:a5 < (a0.size:Int):=od_ tq_2
  have hx5:=bt_at a0 a5
  replace p5:=eq_true p5
  replace q5:=eq_true q5
  have p7:0≤(a5:Int):=od_ tq_2
  have q7:a5 < (a0.size:Int):=od_ tq_2
  have hx7:=bt_at a0 a5
  replace p7:=eq_true p7
  replace q7:=eq_true q7
  have p9:0≤(a5:Int):=od_ tq_2
  have q9:a5 < (a0.size:Int):=od_ tq_2
  have hx9:=bt_at a0 a5
  replace p9:=eq_true p9
  replace q9:=eq_true q9
  go_wp2
  go_ret
  exact ⟨tq_3,tq_8⟩
 rw [if_pos aa] at H
 have ah:=de_ aa
 clear aa
 have ai:=m_ H
 clear H
 have p5:0≤(a5:Int):=od_ tq_2
 have q5:a5 < (a0.size:Int):=od_ tq_2
 have hx5:=bt_at a0 a5
 replace p5:=eq_true p5
 replace q5:=eq_true q5
 have p7:0≤(a5:Int):=od_ tq_2
 have q7:a5 < (a0.size:Int):=od_ tq_2
 have hx7:=bt_at a0 a5
 replace p7:=eq_true p7
 replace q7:=eq_true q7
 have p9:0≤(a5:Int):=od_ tq_2
 have q9:a5 < (a0.size:Int):=od_ tq_2
 have hx9:=bt_at a0 a5
 replace p9:=eq_true p9
 replace q9:=eq_true q9
 have ap:0≤(a5:Int):=od_ tq_2
 have aq:a5 < (a0.size:Int):=od_ tq_2
 have hx11:=bt_at a0 a5
 replace ap:=eq_true ap
 replace aq:=eq_true aq
 go_upto_if 31 with (fail)
 have H:=ai.out
 clear ai
 by_cases ab:((bt a0 a5)≤57)
 rotate_left
 ·rw [if_neg ab] at H
  have a7:=df_ ab
  clear ab
  (first|rw [a7]|(simp only [i64_w,i32_w];rw [a7])|skip)
  obtain rfl:=oi_ H
  go_wp2
  go_ret
  exact ⟨tq_3,tq_8⟩
 rw [if_pos ab] at H
 have a7:=de_ ab
 clear ab
 (first|rw [a7]|(simp only [i64_w,i32_w];rw [a7])|skip)
 have H':=m_ H
 clear H
 go_wp2
 go_roundg k1
 case measure=>have:=HK1.out;omega
 case rel=>exact ⟨(wrap64 (a5+1)),tq_3,H',⟨tq_14⟩,tq_8⟩

def impl_EntryWord.j0:Nat→Bool→Int→ByteArray→Option (ByteArray)
 | 0,_,_,_=>none
 | k+1,a9,a6,a5=>if a9=true then (some (⟨#[]⟩:ByteArray)) else ((impl_NumText.f k a6 1).bind fun a7=>(if a7.size+a5.size≤9223372036854775807 then ((impl_WordText.f (a7++a5)).bind fun a8=>(some a8)) else (none)))
def impl_EntryWord.f (k:Nat) (a5:Int) (a6:ByteArray):Option (ByteArray):=(impl_within.f a5 1 5).bind fun a7=>(if a7=true then ((impl_NameOk.f k a6).bind fun a8=>(impl_EntryWord.j0 k (!a8) a5 a6)) else (impl_EntryWord.j0 k true a5 a6))
def impl_EntryWord.T3:Bool × List (List Nat × List Nat):=(true,[([],[]),([0],[0]),([1],[1]),([],[]),([3],[3]),([2,4],[2,4]),([5,2],[5]),([6,6,0,1,2,3,4,5,6],[6])])
def impl_EntryWord.B3:List Nat:=[0,1,3,0,8,31,63,127]
theorem impl_EntryWord.tab3:rtab .any (opsOf Tryz.f107 3)=impl_EntryWord.T3:=by kernel_rfl
theorem impl_EntryWord.bits3:waitsOk impl_EntryWord.T3.2 impl_EntryWord.B3=true:=by kernel_rfl
theorem impl_EntryWord.calls (k:Nat) (a6:Int) (a7:ByteArray) (r:ByteArray) (w:World) (h:impl_EntryWord.f k a6 a7=some r) :
  Calls Tryz.prog 107 #[.agg #[.int .i64 a6,.string a7]] w fun e w'=>e=.returned (.string r)∧Below w.heap.size w w':=by
 have hu90:=Tryz.underlying90
 have HB:=m_ (Below.refl w.heap.size w)
 unfold impl_EntryWord.f at h
 have H:=h
 clear h
 have ac:=m_ H
 clear H
 go_enter Tryz.func107,Tryz.ntmps107
 go_upto_region 1 with (first|((with_reducible refine gate_dst (N:=1) rfl ?_);refine be_ 1 (cs:=#[.int .i64 a6,.string a7]) 90 ?_;intro a9 hg w3 hbox hb;have z_:=bx0_ th_ hb hbox hg;clear HB;obtain ⟨HB,a5,ah,ai⟩:=z_;clear hb hbox hg))
 (try simp only [Act.put,List.setIfInBounds_toArray,List.set_cons_zero,List.set_cons_succ])
 go_cut [12] (fun v12 wc=>∃ (kq:Nat) (a8:Bool),v12=.bool a8∧Aside0 (impl_EntryWord.j0 kq a8 a6 a7=some r)∧Aside0 (kq≤k)∧Aside0 (wc.heap[a9]?=some (.cells #[.int .i64 a6,.string a7] 90 (0,0)))∧Aside0 (Below w.heap.size w wc))
 case first =>
  have H:=ac.out
  clear ac
  obtain ⟨ae,A4,H⟩:=bd_ H
  by_cases c5:ae=true
  rotate_left
  ·replace c5:=Bool.eq_false_iff.mpr c5
   subst c5
   rw [if_neg nf_] at H
   have H':=m_ H
   clear H
   have aj:=bb2_ a5.out
   go_wp2_with (first|((with_reducible refine gate_callee (f:=57) rfl ?_);refine goesL_ (some 5) rfl rfl Tryz.func57 kr_ rfl #[.int .i64 a6,.int .i64 1,.int .i64 5] rfl tq_0 ?_;(with_reducible refine (impl_within.calls a6 1 5 false _ A4.out).mono ?_);rintro e w' ⟨rfl,⟨nd,rfl⟩⟩;refine ⟨_,rfl,?_⟩))
   go_meet
   case rel=>exact ⟨_,(true),tq_3,H',⟨tq_12⟩,⟨(kb_ a5)⟩,⟨th_⟩⟩
  subst c5
  rw [if_pos rfl] at H
  obtain ⟨ab,A6,H⟩:=bd_ H
  have H':=m_ H
  clear H
  have ak:=bb2_ a5.out
  go_wp2_with (first|((with_reducible refine gate_callee (f:=57) rfl ?_);refine goesL_ (some 5) rfl rfl Tryz.func57 kr_ rfl #[.int .i64 a6,.int .i64 1,.int .i64 5] rfl tq_0 ?_;(with_reducible refine (impl_within.calls a6 1 5 true _ A4.out).mono ?_);rintro e w' ⟨rfl,⟨nd,rfl⟩⟩;refine ⟨_,rfl,?_⟩)|(go_at_call 122;(with_reducible refine (impl_NameOk.calls k a7 ab _ A6.out).mono ?_);rintro e w' ⟨rfl,⟨nd,rfl⟩⟩))
  go_meet
  case rel=>exact ⟨_,(!ab),tq_3,H',⟨tq_12⟩,⟨(kb_ a5)⟩,⟨th_⟩⟩
 case rest =>
 clear ac
 try clear c1;try clear p2;try clear c5;try clear ak;try clear aj;try clear ak;try clear aj
 obtain ⟨kq,a8,rfl,HA,HJ1,a5,HB⟩:=hcut
 cases kq with
 | zero=>exact absurd HA.out (by simp [impl_EntryWord.j0])
 | succ kj1 =>
 have H:=HA.out
 clear HA
 simp only [impl_EntryWord.j0] at H
 by_cases c9:a8=true
 ·subst c9
  rw [if_pos rfl] at H
  obtain rfl:=oi_ H
  go_wp2
  go_ret
  exact ⟨tq_1,th_⟩
 replace c9:=Bool.eq_false_iff.mpr c9
 subst c9
 rw [if_neg nf_] at H
 obtain ⟨aa,ao,H⟩:=bd_ H
 obtain ⟨af,H⟩:=fc_ H
 have al:=eq_true af
 have am:=de_ af
 try have an:(9223372036854775807 < aa.size+a7.size)=False:=eq_false (Nat.not_lt.2 af)
 obtain ⟨ag,ap,H⟩:=bd_ H
 obtain rfl:=oi_ H
 try go_wp2
 have z_:=dw1_ a5 HB
 clear a5 HB
 obtain ⟨a5,HB⟩:=z_
 refine start_ (n:=8) (S:=fun w'=>w'.cell? ⟨a9,0,none⟩=some (.int .i64 a6)∧w'.cell? ⟨a9,1,none⟩=some (.string a7)) (ds:=[]) bq_3 kr_ rfl rfl (bk2_ a5.out) (fun hHeld=>?_);refine with_tabW impl_EntryWord.tab3 impl_EntryWord.bits3 (fun HT_ HW_=>?_)
 generalize wc.drew=aq at a5 HB hHeld ⊢
 refine yr_ 0 13 bq_4 HT_ ?_
 refine yr_ 3 16 bq_227 HT_ ?_
 refine tr_ 1 14 bq_228 HT_ HW_ hHeld ?_
 refine tr_ 4 17 bq_229 HT_ HW_ hHeld ?_
 refine one_ (i:=2) (N:=some 15) bq_149 rfl rfl (one_of HT_.out kr_) (by decide) (fun K hK=>?_)
 refine goes_ Tryz.func99 kr_ rfl #[.int .i64 a6,.int .i64 1] (by rfl) rfl rfl tq_0 ?_
 with_reducible refine (impl_NumText.calls kj1 a6 1 aa _ ao.out).mono ?_
 rintro e ar ⟨rfl,hb⟩
 refine ⟨_,rfl,?_⟩
 have z_:=bw1_ (kb_ a5) th_ hb
 clear a5 HB
 obtain ⟨a5,HB⟩:=z_
 (try clear hb)
 refine hK.out _ _ (bk2_ a5.out) (fun hHeld=>?_)
 clear hK K
 refine nm_ (some 15) ?_
 refine yr_ 5 18 bq_5 HT_ ?_
 refine one_ (i:=6) (N:=some 19) bq_6 rfl rfl (one_of HT_.out kr_) (by decide) (fun K hK=>?_)
 refine goes_ Tryz.func98 kr_ rfl #[.string (aa++a7)] (by rfl) rfl rfl tq_0 ?_
 with_reducible refine (impl_WordText.calls (aa++a7) ag _ ap.out).mono ?_
 rintro e au ⟨rfl,hb⟩
 refine ⟨_,rfl,?_⟩
 have z_:=bw1_ (kb_ a5) th_ hb
 clear a5 HB
 obtain ⟨a5,HB⟩:=z_
 (try clear hb)
 refine hK.out _ _ (bk2_ a5.out) (fun hHeld=>?_)
 clear hK K
 refine nm_ (some 19) ?_
 refine yr_ 7 2 bq_7 HT_ ?_
 refine done_ (done_of HT_.out kr_) ?_
 try go_wp2
 go_ret
 exact ⟨tq_1,th_⟩

def impl_ReadEntry.f (k:Nat) (a0:ByteArray):Option (Int × ByteArray × Bool):=if (a0.size:Int)=8 then (if 0 < (a0.size:Int) then (if 1≤(a0.size:Int) then ((strings_TrimRight.f (a0.extract 1 a0.size) (⟨#[0]⟩:ByteArray)).bind fun a5=>((impl_EntryWord.f k (wrap64 (bt a0 0)) a5).bind fun a6=>(if a6.toList=a0.toList then (some (wrap64 (bt a0 0),a5,true)) else (some (0,(⟨#[]⟩:ByteArray),false))))) else (none)) else (none)) else (some (0,(⟨#[]⟩:ByteArray),false))
def impl_ReadEntry.T3:Bool × List (List Nat × List Nat):=(true,[([],[]),([0],[0]),([1],[1]),([],[]),([3],[3]),([4],[4]),([2,5],[2,5]),([],[]),([7,6,5,0,1,2,3,4,5,6,7],[6,7])])
def impl_ReadEntry.B3:List Nat:=[0,1,3,0,8,24,63,0,255]
theorem impl_ReadEntry.tab3:rtab .any (opsOf Tryz.f90 3)=impl_ReadEntry.T3:=by kernel_rfl
theorem impl_ReadEntry.bits3:waitsOk impl_ReadEntry.T3.2 impl_ReadEntry.B3=true:=by kernel_rfl
theorem impl_ReadEntry.calls (k:Nat) (a0:ByteArray) (r1:Int) (r2:ByteArray) (r3:Bool) (w:World) (h:impl_ReadEntry.f k a0=some (r1,r2,r3)) :
  Calls Tryz.prog 90 #[.string a0] w fun e w'=>e=.returned (.tuple #[.agg #[.int .i64 r1,.string r2],.bool r3])∧Below w.heap.size w w':=by
 have hu90:=Tryz.underlying90
 have HB:=m_ (Below.refl w.heap.size w)
 unfold impl_ReadEntry.f at h
 have H:=h
 clear h
 have aq:=m_ H
 clear H
 go_enter Tryz.func90,Tryz.ntmps90
 go_upto_if 7 with (first|((with_reducible refine gate_dst (N:=2) rfl ?_);refine be_ 2 (cs:=#[.int .i64 0,.string (⟨#[]⟩:ByteArray)]) 90 ?_;intro aa hg w3 hbox hb;have z_:=bx0_ th_ hb hbox hg;clear HB;obtain ⟨HB,a5,ar,au⟩:=z_;clear hb hbox hg))
 (try simp only [Act.put,List.setIfInBounds_toArray,List.set_cons_zero,List.set_cons_succ])
 have H:=aq.out
 clear aq
 by_cases c4:(a0.size:Int)=8
 rotate_left
 ·rw [if_neg c4] at H
  have ai:=qc_ c4
  have ao:=qd_ c4
  (first|rw [ai]|(simp only [i64_w,i32_w];rw [ai])|skip)
  simp only [Option.some.injEq,Prod.mk.injEq] at H
  obtain ⟨rfl,rfl,rfl⟩:=H
  have av:=bb2_ a5.out
  go_wp2
  refine bodyPost_ret (results_ct rfl _ _ aa 90 #[.int .i64 0,.string (⟨#[]⟩:ByteArray)] (0,0) _ rfl tb_ Tryz.underlying90 rfl kr_) rfl ?_
  exact ⟨tq_1,th_⟩
 rw [if_pos c4] at H
 have ai:=qa_ c4
 have ao:=qb_ c4
 clear c4
 (first|rw [ai]|(simp only [i64_w,i32_w];rw [ai])|skip)
 obtain ⟨c5,H⟩:=fc_ H
 have aw:=de_ c5
 have ax:decide (0 < a0.size)=true:=de_ (by omega)
 clear c5
 obtain ⟨c7,H⟩:=fc_ H
 have ay:=eq_true c7
 have az:=de_ c7
 clear c7
 obtain ⟨ae,A8,H⟩:=bd_ H
 obtain ⟨ak,A9,H⟩:=bd_ H
 have al:=m_ H
 clear H
 try go_wp2
 have z_:=dw1_ a5 HB
 clear a5 HB
 obtain ⟨a5,HB⟩:=z_
 have p6:0≤(0:Int):=(by omega)
 have q6:0 < a0.size:=(by have:(0:Int) < (a0.size:Int):=od_ tq_2;omega)
 have hx6:∀ h:0 < a0.size,((a0[0]'h).toNat:Int)=bt a0 0:=bt_at a0 0
 clear p6
 have b5:(0 < (a0.size:Int))=True:=eq_true (od_ tq_2)
 replace q6:=eq_true q6
 refine start_ (n:=9) (S:=fun w'=>True) (ds:=[]) bq_151 kr_ rfl rfl trivial (fun hHeld=>?_);refine with_tabW impl_ReadEntry.tab3 impl_ReadEntry.bits3 (fun HT_ HW_=>?_)
 generalize w3.drew=b6 at a5 HB hHeld ⊢
 refine yr_ 0 9 bq_152 HT_ ?_
 refine yr_ 3 12 bq_153 HT_ ?_
 refine yr_ 4 13 bq_154 HT_ ?_
 refine take_ (i:=1) (N:=some 10) (v:=?_) (a':=?_) #[T_,T_,F_,T_,T_,F_,F_,F_,F_] rfl rfl (take_ofW HT_.out HW_.out kr_) (fun _ _ _ h=>h) (Or.inl ⟨(by rfl),?_⟩) hHeld ?_ ?_
 rotate_left
 ·intro w' _
  go_simp
  with_reducible rfl
 rotate_left
 ·simp only [Act.put,List.setIfInBounds_toArray,List.set_cons_zero,List.set_cons_succ,i64_w,i32_w]
  rfl
 refine yr_ 2 11 #[T_,T_,T_,T_,T_,F_,F_,F_,F_] HT_ ?_
 refine join_ (σ:=Nat) 1 bq_29 (fun s_=>[(14,.string ae),(4,.pointer (some ⟨s_,0,none⟩)),(15,.agg #[.int .i64 (wrap64 (bt a0 0)),.string ae])]) (fun s_ w'=>(w'.heap[aa]?=some (.cells #[.int .i64 0,.string (⟨#[]⟩:ByteArray)] 90 (0,0)))∧(w'.heap[s_]?=some (.cells #[.int .i64 0,.string (⟨#[]⟩:ByteArray)] 90 (0,0)))∧(w.heap.size≤s_)∧(w.heap.size≤s_)∧(aa≠s_)∧(s_≠aa)∧(Below w.heap.size w w')) ?_ ?_
 rotate_left
 ·intro hCont
  refine two_ (i:=5) (j:=7) (Ni:=some 14) (Nj:=some 4) bq_155 #[T_,T_,T_,T_,T_,F_,F_,T_,F_] rfl rfl rfl rfl (two_of HT_.out kr_) (by decide) (by decide) (fun K hK=>?_) (fun K hK=>?_)
  ·skip
   refine goes_ Tryz.func106 kr_ rfl #[.string (a0.extract 1 a0.size),.string (⟨#[0]⟩:ByteArray)] (by rfl) rfl rfl tq_0 ?_
   with_reducible refine (strings_TrimRight.calls (a0.extract 1 a0.size) (⟨#[0]⟩:ByteArray) ae _ A8.out).mono ?_
   rintro e b0 ⟨rfl,hb⟩
   refine ⟨_,rfl,?_⟩
   have z_:=bw1_ (kb_ a5) th_ hb
   clear a5 HB
   obtain ⟨a5,HB⟩:=z_
   (try clear hb)
   refine hK.out _ _ trivial (fun hHeld=>?_)
   clear hK K
   refine nm_ (some 14) ?_
   refine yr_ 6 15 bq_156 HT_ ?_
   refine one_ (i:=7) (N:=some 4) bq_29 rfl rfl (one_of HT_.out kr_) (by decide) (fun K hK=>?_)
   refine box_step ?hg (N:=4) ?hd (cs:=#[.int .i64 0,.string (⟨#[]⟩:ByteArray)]) (t:=90) ?hr ?_;(case hd=>rfl);(case hg=>rfl);(case hr=>first|(go_simp;done)|(go_simp;rfl))
   intro a9 hg b1 hbox hb
   have z_:=bx1_ (kb_ a5) th_ hb hbox hg
   clear a5 HB
   obtain ⟨a5,HB,a8,ag,ah,a6,a7⟩:=z_
   clear hb hbox hg
   refine hK.out _ _ trivial (fun hHeld=>?_)
   clear hK K
   refine nm_ (some 4) ?_
   exact norm_ tq_10 (hCont (a9) _ ⟨(kb_ a5),(kb_ a8),ag.out,ah.out,a6.out,a7.out,th_⟩)
  ·skip
   refine box_step ?hg (N:=4) ?hd (cs:=#[.int .i64 0,.string (⟨#[]⟩:ByteArray)]) (t:=90) ?hr ?_;(case hd=>rfl);(case hg=>rfl);(case hr=>first|(go_simp;done)|(go_simp;rfl))
   intro a9 hg b0 hbox hb
   have z_:=bx1_ (kb_ a5) th_ hb hbox hg
   clear a5 HB
   obtain ⟨a5,HB,a8,ag,ah,a6,a7⟩:=z_
   clear hb hbox hg
   refine hK.out _ _ trivial (fun hHeld=>?_)
   clear hK K
   refine nm_ (some 4) ?_
   refine one_ (i:=5) (N:=some 14) #[T_,T_,T_,T_,T_,T_,F_,T_,F_] rfl rfl (one_of HT_.out kr_) (by decide) (fun K hK=>?_)
   refine goes_ Tryz.func106 kr_ rfl #[.string (a0.extract 1 a0.size),.string (⟨#[0]⟩:ByteArray)] (by rfl) rfl rfl tq_0 ?_
   with_reducible refine (strings_TrimRight.calls (a0.extract 1 a0.size) (⟨#[0]⟩:ByteArray) ae _ A8.out).mono ?_
   rintro e b1 ⟨rfl,hb⟩
   refine ⟨_,rfl,?_⟩
   have z_:=bw2_ (kb_ a5) (kb_ a8) th_ hb
   clear a5 a8 HB
   obtain ⟨a5,a8,HB⟩:=z_
   (try clear hb)
   refine hK.out _ _ trivial (fun hHeld=>?_)
   clear hK K
   refine nm_ (some 14) ?_
   refine yr_ 6 15 bq_29 HT_ ?_
   exact norm_ tq_10 (hCont (a9) _ ⟨(kb_ a5),(kb_ a8),ag.out,ah.out,a6.out,a7.out,th_⟩)
 rintro a9 am ⟨h0_,h1_,h2_,h3_,h4_,h5_,h6_⟩
 have z_:=q_ (⟨h0_⟩:Aside0 (am.heap[aa]?=some (.cells #[.int .i64 0,.string (⟨#[]⟩:ByteArray)] 90 (0,0)))) <| q_ (⟨h1_⟩:Aside0 (am.heap[a9]?=some (.cells #[.int .i64 0,.string (⟨#[]⟩:ByteArray)] 90 (0,0)))) <| q_ (⟨h2_⟩:Aside0 (w.heap.size≤a9)) <| q_ (⟨h3_⟩:Aside0 (w.heap.size≤a9)) <| q_ (⟨h4_⟩:Aside0 (aa≠a9)) <| q_ (⟨h5_⟩:Aside0 (a9≠aa)) <| (⟨h6_⟩:Aside0 (Below w.heap.size w am))
 clear a5 HB h0_ h1_ h2_ h3_ h4_ h5_ h6_
 obtain ⟨a5,a8,ag,ah,a6,a7,HB⟩:=z_
 have hHeld:=trivial
 refine norm_ (a':=?_) ?_ ?_
 rotate_left
 ·simp only [putAll,Act.put,List.setIfInBounds_toArray,List.set_cons_zero,List.set_cons_succ]
  rfl
 refine one_ (i:=8) (N:=none) bq_157 rfl rfl (one_of HT_.out kr_) (by decide) (fun K hK=>?_)
 have hs15:am.cell? ⟨a9,0,none⟩=some (.int .i64 0):=(blk_cell a8.out 0).trans rfl
 have hfs15:=blk_frozen a8.out 0
 obtain ⟨ab,ac⟩:=an2_ a6 a7
 have hs16:am.cell? ⟨a9,1,none⟩=some (.string (⟨#[]⟩:ByteArray)):=(blk_cell a8.out 1).trans rfl
 have hfs16:=blk_frozen a8.out 1
 refine skip_ (w1:=?_) (by rfl) rfl ?_ ?_
 rotate_left
 ·go_simp
  rfl
 refine hK.out _ _ trivial (fun hHeld=>?_)
 clear hK K
 refine done_ (done_of HT_.out kr_) ?_
 have ap:=bb2_ a8.out
 go_upto_if 19 with (first|((with_reducible refine gate_callee (f:=107) rfl ?_);refine goesL_ (some 17) rfl rfl Tryz.func107 kr_ rfl #[.agg #[.int .i64 (wrap64 (bt a0 0)),.string ae]] rfl tq_0 ?_;(with_reducible refine (impl_EntryWord.calls k (wrap64 (bt a0 0)) ae ak _ A9.out).mono ?_);rintro e b7 ⟨rfl,hb⟩;refine ⟨_,rfl,?_⟩;have z_:=p_ (blk_below (g:=aa) (o:=.cells #[.int .i64 0,.string (⟨#[]⟩:ByteArray)] 90 (0,0)) (fr_ a5.out a6.out) hb) <| p_ (blk_below (g:=a9) (o:=.cells #[.int .i64 (wrap64 (bt a0 0)),.string ae] 90 (0,0)) (pt_ a8.out) hb) <| a_ (below_step th_ hb);clear a5 a8 HB;obtain ⟨a5,a8,HB⟩:=z_;(try clear hb)))
 (try simp only [Act.put,List.setIfInBounds_toArray,List.set_cons_zero,List.set_cons_succ])
 (try clear ab ac)
 (try clear ap)
 have H:=al.out
 clear al
 by_cases aj:ak.toList=a0.toList
 rotate_left
 ·rw [if_neg aj] at H
  have af:=qc_ aj
  have an:=qd_ aj
  (first|rw [af]|(simp only [i64_w,i32_w];rw [af])|skip)
  simp only [Option.some.injEq,Prod.mk.injEq] at H
  obtain ⟨rfl,rfl,rfl⟩:=H
  obtain ⟨ab,ac⟩:=an2_ a6 a7
  have b2:=bb2_ a5.out
  go_wp2
  refine bodyPost_ret (results_ct rfl _ _ aa 90 #[.int .i64 0,.string (⟨#[]⟩:ByteArray)] (0,0) _ rfl tb_ Tryz.underlying90 rfl kr_) rfl ?_
  exact ⟨tq_1,th_⟩
 rw [if_pos aj] at H
 have af:=qa_ aj
 have an:=qb_ aj
 clear aj
 (first|rw [af]|(simp only [i64_w,i32_w];rw [af])|skip)
 simp only [Option.some.injEq,Prod.mk.injEq] at H
 obtain ⟨rfl,rfl,rfl⟩:=H
 obtain ⟨ac,ab⟩:=an2_ a7 a6
 have b3:=bb2_ a8.out
 have b4:=bb2_ a5.out
 go_wp2
 refine bodyPost_ret (results_ct rfl _ _ aa 90 #[.int .i64 (wrap64 (bt a0 0)),.string ae] (0,0) _ rfl tb_ Tryz.underlying90 rfl kr_) rfl ?_
 exact ⟨tq_1,th_⟩

def clo124.p (c0_0:Int) (c0_1:Int) (c0_2:ByteArray) (x:S86):Bool:=x.f0 == c0_0
theorem clo124 (x:S86) (gb0:Nat) (c0_0:Int) (c0_1:Int) (c0_2:ByteArray) (W:World) (hcl0:W.heap[gb0]?=some (.cells #[.int .i64 c0_0,.int .i64 c0_1,.string c0_2] 86 (0,0))):Calls Tryz.prog 124 (#[.agg #[.int .i64 x.f0,.int .i64 x.f1,.string x.f2]]++#[.pointer (some ⟨gb0,0,none⟩)]) W fun e w'=>e=.returned (.bool (clo124.p c0_0 c0_1 c0_2 x))∧Below W.heap.size W w':=by
 have hu86:=Tryz.underlying86
 have hb0:gb0 < W.heap.size:=blk_lt hcl0
 have h0_0:W.cell? ⟨gb0,0,none⟩=some (.int .i64 c0_0):=(blk_cell hcl0 0).trans rfl
 have h0_1:W.cell? ⟨gb0,1,none⟩=some (.int .i64 c0_1):=(blk_cell hcl0 1).trans rfl
 have h0_2:W.cell? ⟨gb0,2,none⟩=some (.string c0_2):=(blk_cell hcl0 2).trans rfl
 clear hcl0
 show Calls Tryz.prog 124 #[.agg #[.int .i64 x.f0,.int .i64 x.f1,.string x.f2],.pointer (some ⟨gb0,0,none⟩)] W _
 go_enter Tryz.func124,Tryz.ntmps124
 go_wp2
 go_ret
 exact ⟨(by unfold clo124.p;first|rfl|(simp;done)),(by repeat (first|(with_reducible first|exact Below.refl _ _|apply below_alloc)|exact Below.refl ..))⟩

def lq137_ren:Go.Shelf.Ren:=⟨fun|6=>137|n=>n,fun|22=>59|23=>86|25=>134|3=>3|0=>0|4=>4|n=>n,fun|n=>n⟩
theorem lq137:Go.Proofs.SlLaysH0.n6 Tryz.prog lq137_ren:={
 mixed:=by kernel_rfl
 f6:=⟨Tryz.f137.name,(by decide),Tryz.func137.trans (congrArg some kr_)⟩
 t0:=Tryz.underlying0
 a0:=Tryz.isAgg0
 z0:=Tryz.sizeOf0
 v0:=Tryz.zeroValue0
 t3:=Tryz.underlying3
 a3:=Tryz.isAgg3
 z3:=Tryz.sizeOf3
 v3:=Tryz.zeroValue3
 t4:=Tryz.underlying4
 a4:=Tryz.isAgg4
 z4:=Tryz.sizeOf4
 v4:=Tryz.zeroValue4
 t22:=Tryz.underlying59
 a22:=Tryz.isAgg59
 z22:=Tryz.sizeOf59
 v22:=Tryz.zeroValue59
 t25:=Tryz.underlying134
 a25:=Tryz.isAgg134
 z25:=Tryz.sizeOf134
 v25:=Tryz.zeroValue134 }
theorem idx137_nil (a:Option Addr) (c:Nat) (fv:Value) (w:World):Calls Tryz.prog 137 #[.slice a 0 c,fv] w fun e w'=>e=.returned (.int .i64 (-1))∧w'=w:=by
 go_enter Tryz.func137,Tryz.ntmps137
 go_wp2
 go_loopg [5,8] 0 (fun gg _ s8 wr=>s8=.int .i64 0∧wr=w)
 case atStart=>exact ⟨rfl,rfl⟩
 case round =>
 obtain ⟨rfl,rfl⟩:=hrel
 go_wp2
 go_ret
 exact ⟨rfl,rfl⟩
instance inh86:Inhabited S86:=⟨z86⟩
def enc86 (x:S86):List Value:=[.int .i64 x.f0,.int .i64 x.f1,.string x.f2]
theorem idx137 (p:S86→Bool) (g:Nat) (lb:Array Value) (eg:∀ args w,(callFunc g args).run Tryz.prog w=.ok (.enter g args) w) (A0:Option Addr) (c0:Nat) (l0:List S86) (w:World) (hr0:Kd.C k86 w A0 l0.length l0) (hbig:l0.length≤9223372036854775807)
  (hp:PredBelow Tryz.prog g lb (fun x=>.agg (enc86 x).toArray) p w) :
  Calls Tryz.prog 137 #[.slice A0 l0.length c0,.func (.func g) #[] lb] w fun e w'=>e=.returned (.int .i64 (Lib.idxBy (fun _ y=>p y) l0 default))∧Below w.heap.size w w':=by
 rcases Nat.eq_zero_or_pos l0.length with hz|hz
 ·have hn:=List.eq_nil_of_length_eq_zero hz
  subst hn
  refine (idx137_nil A0 c0 _ w).mono ?_
  rintro e w' ⟨rfl,rfl⟩
  exact ⟨rfl,Below.refl _ _⟩
 ·obtain ⟨ad,rfl,hcell⟩:=hr0.2.2 hz
  have cells:∀ (j:Nat) x,l0[j]?=some x→∀ i v,(enc86 x)[i]?=some v→w.cell? (ad.add (j * 3+i))=some v:=by
   intro j x hx i v hv
   obtain ⟨c,_,hk,hc⟩:=hcell j x hx
   have hk2:=k86_open hk
   subst hk2
   exact hc i _ hv
  have h0:=cells 0 _ (List.getElem?_eq_getElem hz) 0 _ rfl
  have hsp:ad.spot=none:=by
   have h0':w.cell? ad=some _:=h0
   unfold World.cell? at h0'
   split at h0'
   ·split at h0'
    ·cases h0'
    ·simpa using ‹¬ ad.spot.isSome=true›
   ·cases h0'
  obtain ⟨bk,o,sp⟩:=ad
  cases hsp
  have:=AnyQ.slices_IndexFunc lq137 3 Tryz.isAgg86 Tryz.sizeOf86 enc86 (fun _=>rfl) p g lb eg bk o l0.length c0 l0 w hp (Nat.le_refl _) hbig (World.block_lt_of_cell? w _ h0) (fun j hj i v hv=>by
   have:=cells j _ (List.getElem?_eq_getElem hj) i v (by rw [← getElem!_pos l0 j hj];exact hv)
   rw [Addr.add_lit] at this
   rw [Nat.add_assoc]
   exact this)
  rw [List.take_length] at this
  exact this
def slices_IndexFunc_Rec_g124.f (l0:List S86) (c0_0:Int) (c0_1:Int) (c0_2:ByteArray):Option (Int):=if l0.length≤9223372036854775807 then some (Lib.idxBy (fun _ y=>clo124.p c0_0 c0_1 c0_2 y) l0 z86) else none
theorem slices_IndexFunc_Rec_g124.calls (A0:Option Addr) (c0:Nat) (l0:List S86) (a8:Nat) (a5:Int) (a6:Int) (a7:ByteArray) (r:Int) (w:World) (hr0:Kd.C k86 w A0 l0.length l0) (hc0:l0.length≤c0) (a9:w.heap[a8]?=some (.cells #[.int .i64 a5,.int .i64 a6,.string a7] 86 (0,0))) (h:slices_IndexFunc_Rec_g124.f l0 a5 a6 a7=some r) :
  Calls Tryz.prog 137 #[.slice A0 l0.length c0,.func (.func 124) #[] #[.pointer (some ⟨a8,0,none⟩)]] w fun e w'=>e=.returned (.int .i64 r)∧Below w.heap.size w w':=by
 unfold slices_IndexFunc_Rec_g124.f at h
 split at h
 case isFalse=>cases h
 case isTrue hl =>
 obtain rfl:=oi_ h
 exact idx137 (fun y=>clo124.p a5 a6 a7 y) 124 #[.pointer (some ⟨a8,0,none⟩)] (fun args W=>enters_ Tryz.func124 rfl rfl args W) A0 c0 l0 w hr0 hl (fun W x hW=>(clo124 x a8 a5 a6 a7 W (blk_below a9 hW)).mono fun e w' hq=>⟨hq.1,hW.trans (hq.2.mono hW.size)⟩)

def slices_ContainsFunc_Rec_g124.f (l0:List S86) (c0_0:Int) (c0_1:Int) (c0_2:ByteArray):Option (Bool):=if l0.length≤9223372036854775807 then some (decide (Lib.idxBy (fun _ y=>clo124.p c0_0 c0_1 c0_2 y) l0 z86 ≥ 0)) else none
theorem slices_ContainsFunc_Rec_g124.calls (A0:Option Addr) (c0:Nat) (l0:List S86) (a8:Nat) (a5:Int) (a6:Int) (a7:ByteArray) (r:Bool) (w:World) (hr0:Kd.C k86 w A0 l0.length l0) (hc0:l0.length≤c0) (a9:w.heap[a8]?=some (.cells #[.int .i64 a5,.int .i64 a6,.string a7] 86 (0,0))) (h:slices_ContainsFunc_Rec_g124.f l0 a5 a6 a7=some r) :
  Calls Tryz.prog 123 #[.slice A0 l0.length c0,.func (.func 124) #[] #[.pointer (some ⟨a8,0,none⟩)]] w fun e w'=>e=.returned (.bool r)∧Below w.heap.size w w':=by
 unfold slices_ContainsFunc_Rec_g124.f at h
 split at h
 case isFalse=>cases h
 case isTrue hl =>
 obtain rfl:=oi_ h
 have hI:=slices_IndexFunc_Rec_g124.calls A0 c0 l0 a8 a5 a6 a7 _ w hr0 hc0 a9 (by unfold slices_IndexFunc_Rec_g124.f;rw [if_pos hl])
 go_enter Tryz.func123,Tryz.ntmps123
 go_wp2_with (go_at_call 137;refine hI.mono ?_;rintro e w1 ⟨rfl,hb⟩)
 go_ret
 exact ⟨rfl,hb⟩

def impl_PagesFor.f (a0:Int):Option (Int):=if a0 < 0 then (some 0) else (if (Int.tmod a0 32) > 0 then (some (wrap64 ((wrap64 (Int.tdiv a0 32))+1))) else (some (wrap64 (Int.tdiv a0 32))))
theorem impl_PagesFor.calls (a0:Int) (r:Int) (w:World) (h:impl_PagesFor.f a0=some r) :
  Calls Tryz.prog 125 #[.int .i64 a0] w fun e w'=>e=.returned (.int .i64 r)∧Drawn0 w w':=by
 unfold impl_PagesFor.f at h
 have H:=h
 clear h
 by_cases c2:a0 < 0
 ·rw [if_pos c2] at H
  have a5:=de_ c2
  clear c2
  obtain rfl:=oi_ H
  go_enter Tryz.func125,Tryz.ntmps125
  go_wp2
  go_ret
  exact ⟨tq_3,tq_8⟩
 rw [if_neg c2] at H
 have a5:=df_ c2
 clear c2
 by_cases c3:(Int.tmod a0 32) > 0
 ·rw [if_pos c3] at H
  have a6:=de_ c3
  clear c3
  obtain rfl:=oi_ H
  go_enter Tryz.func125,Tryz.ntmps125
  go_wp2
  go_ret
  exact ⟨tq_3,tq_8⟩
 rw [if_neg c3] at H
 have a6:=df_ c3
 clear c3
 obtain rfl:=oi_ H
 go_enter Tryz.func125,Tryz.ntmps125
 go_wp2
 go_ret
 exact ⟨tq_3,tq_8⟩

def impl_isFile.l0:Nat→List (S86)→Int→Int→Int→Int→Int→ByteArray→List (S86)→List (S90)→Option (Bool)
 | 0,_,_,_,_,_,_,_,_,_=>none
 | k+1,x6,x7,x8,a9,a6,aa,a7,a5,a8=>if x8 < x7 then (if 0≤x8 then (if x8 < (x6.length:Int) then ((impl_RecWord.f k ((rd_T86 x6 x8).f0) ((rd_T86 x6 x8).f1) ((rd_T86 x6 x8).f2)).bind fun ab=>(if ab.toList=([]:List UInt8) then (some false) else (if x8≤(a5.length:Int) then ((slices_ContainsFunc_Rec_g124.f (a5.take (x8:Int).toNat) ((rd_T86 x6 x8).f0) ((rd_T86 x6 x8).f1) ((rd_T86 x6 x8).f2)).bind fun ac=>(if ac=true then (some false) else (impl_isFile.l0 k x6 x7 (wrap64 (x8+1)) a9 a6 aa a7 a5 a8))) else (none)))) else (none)) else (none)) else ((impl_within.f a6 0 128).bind fun ae=>(if ae=true then (if (a7.size:Int)=8 then ((impl_PagesFor.f a6).bind fun af=>(if (a5.length:Int)=af then (some ((a8.length:Int) == 0)) else (some false))) else (some false)) else (some false)))
def impl_isFile.f (k:Nat) (a6:Int) (a7:Int) (a8:Int) (a9:ByteArray) (a5:List (S86)) (aa:List (S90)):Option (Bool):=impl_isFile.l0 k a5 (a5.length:Int) 0 a6 a7 a8 a9 a5 aa
theorem impl_isFile.calls (k:Nat) (ag:Int) (a6:Int) (ah:Int) (af:ByteArray) (ax:Option Addr) (a8:Nat) (l0_4:List (S86)) (aj:Option Addr) (ak:Nat) (aa:List (S90)) (r:Bool) (w:World) (b5:Kd.C k86 w ax l0_4.length l0_4) (b6:l0_4.length≤a8) (b7:Kd.C k90 w aj aa.length aa) (b8:aa.length≤ak) (h:impl_isFile.f k ag a6 ah af l0_4 aa=some r) :
  Calls Tryz.prog 108 #[.agg #[.int .i64 ag,.int .i64 a6,.int .i64 ah,.string af,.slice ax l0_4.length a8,.slice aj aa.length ak]] w fun e w'=>e=.returned (.bool r)∧Below w.heap.size w w':=by
 have hu62:=Tryz.underlying62
 have hu86:=Tryz.underlying86
 have HR0_4:=m_ b5
 have b0:=m_ b6
 clear b5 b6
 have HR0_5:=m_ b7
 have cb:=m_ b8
 clear b7 b8
 have HB:=m_ (Below.refl w.heap.size w)
 unfold impl_isFile.f at h
 have H:=h
 clear h
 have H':=m_ H
 clear H
 go_enter Tryz.func108,Tryz.ntmps108
 go_wp2_with (first|((with_reducible refine gate_dst (N:=1) rfl ?_);(try (refine gate_guard (by rfl) ?_;dsimp only));refine be_ 1 (cs:=#[.int .i64 ag,.int .i64 a6,.int .i64 ah,.string af,.slice ax l0_4.length a8,.slice aj aa.length ak]) 62 ?_;intro ai hg w2 hbox hb;have z_:=bx0_ th_ hb hbox hg;clear HB;obtain ⟨HB,BK521,b9,ba⟩:=z_;clear hb hbox hg;have bj:=bb6_ BK521.out))
 repeat (go_quiet (first|((with_reducible refine gate_dst (N:=1) rfl ?_);(try (refine gate_guard (by rfl) ?_;dsimp only));refine be_ 1 (cs:=#[.int .i64 ag,.int .i64 a6,.int .i64 ah,.string af,.slice ax l0_4.length a8,.slice aj aa.length ak]) 62 ?_;intro ai hg w2 hbox hb;have z_:=bx0_ th_ hb hbox hg;clear HB;obtain ⟨HB,BK521,b9,ba⟩:=z_;clear hb hbox hg;have bj:=bb6_ BK521.out));try go_wp2_with (first|((with_reducible refine gate_dst (N:=1) rfl ?_);(try (refine gate_guard (by rfl) ?_;dsimp only));refine be_ 1 (cs:=#[.int .i64 ag,.int .i64 a6,.int .i64 ah,.string af,.slice ax l0_4.length a8,.slice aj aa.length ak]) 62 ?_;intro ai hg w2 hbox hb;have z_:=bx0_ th_ hb hbox hg;clear HB;obtain ⟨HB,BK521,b9,ba⟩:=z_;clear hb hbox hg;have bj:=bb6_ BK521.out)))
 go_loopg [8] k (fun kq v8 w'=>∃ (x8_1:Int),v8=.int .i64 x8_1∧Aside0 (impl_isFile.l0 kq l0_4 (l0_4.length:Int) x8_1 ag a6 ah af l0_4 aa=some r)∧Aside0 (kq≤k)∧Aside0 (w'.heap[ai]?=some (.cells #[.int .i64 ag,.int .i64 a6,.int .i64 ah,.string af,(.slice ax l0_4.length a8),(.slice aj aa.length ak)] 62 (0,0)))∧Aside0 (Below w.heap.size w w'))
 case atStart=>exact ⟨(0),tq_3,H',⟨Nat.le_refl _⟩,⟨(kb_ BK521)⟩,⟨th_⟩⟩
 case round =>
 clear H'
 try clear c1;try clear p2;try clear bj
 obtain ⟨x8_1,rfl,HA,HK1,BK521,HB⟩:=hrel
 cases gk with
 | zero=>exact absurd HA.out (by simp [impl_isFile.l0])
 | succ k1 =>
 have H:=HA.out
 clear HA
 simp only [impl_isFile.l0] at H
 by_cases c4:x8_1 < (l0_4.length:Int)
 rotate_left
 ·rw [if_neg c4] at H
  have bu:=df_ c4
  clear c4
  obtain ⟨bv,az,H⟩:=bd_ H
  by_cases br:bv=true
  rotate_left
  ·replace br:=Bool.eq_false_iff.mpr br
   subst br
   rw [if_neg nf_] at H
   obtain rfl:=oi_ H
   have cj:=bb6_ BK521.out
   go_wp2_with (first|(go_at_call 57;(with_reducible refine (impl_within.calls a6 0 128 false _ az.out).mono ?_);rintro e w' ⟨rfl,⟨nd,rfl⟩⟩;(try first|exact ⟨rfl,_,World.drewN_drewN _ _ _⟩|exact ⟨rfl,_,Eq.trans (World.drewN_drewN _ _ _) (congrArg (World.drewN _) (Nat.add_assoc _ _ _))⟩)))
   repeat (go_quiet (first|(go_at_call 57;(with_reducible refine (impl_within.calls a6 0 128 false _ az.out).mono ?_);rintro e w' ⟨rfl,⟨nd,rfl⟩⟩;(try first|exact ⟨rfl,_,World.drewN_drewN _ _ _⟩|exact ⟨rfl,_,Eq.trans (World.drewN_drewN _ _ _) (congrArg (World.drewN _) (Nat.add_assoc _ _ _))⟩)));try go_wp2_with (first|(go_at_call 57;(with_reducible refine (impl_within.calls a6 0 128 false _ az.out).mono ?_);rintro e w' ⟨rfl,⟨nd,rfl⟩⟩;(try first|exact ⟨rfl,_,World.drewN_drewN _ _ _⟩|exact ⟨rfl,_,Eq.trans (World.drewN_drewN _ _ _) (congrArg (World.drewN _) (Nat.add_assoc _ _ _))⟩))))
   go_ret
   exact ⟨tq_1,th_⟩
  subst br
  rw [if_pos rfl] at H
  by_cases bf:(af.size:Int)=8
  rotate_left
  ·rw [if_neg bf] at H
   have bl:=qc_ bf
   have bm:=qd_ bf
   obtain rfl:=oi_ H
   have ck:=bb6_ BK521.out
   go_wp2_with (first|(go_at_call 57;(with_reducible refine (impl_within.calls a6 0 128 true _ az.out).mono ?_);rintro e w' ⟨rfl,⟨nd,rfl⟩⟩;(try first|exact ⟨rfl,_,World.drewN_drewN _ _ _⟩|exact ⟨rfl,_,Eq.trans (World.drewN_drewN _ _ _) (congrArg (World.drewN _) (Nat.add_assoc _ _ _))⟩)))
   repeat (go_quiet (first|(go_at_call 57;(with_reducible refine (impl_within.calls a6 0 128 true _ az.out).mono ?_);rintro e w' ⟨rfl,⟨nd,rfl⟩⟩;(try first|exact ⟨rfl,_,World.drewN_drewN _ _ _⟩|exact ⟨rfl,_,Eq.trans (World.drewN_drewN _ _ _) (congrArg (World.drewN _) (Nat.add_assoc _ _ _))⟩)));try go_wp2_with (first|(go_at_call 57;(with_reducible refine (impl_within.calls a6 0 128 true _ az.out).mono ?_);rintro e w' ⟨rfl,⟨nd,rfl⟩⟩;(try first|exact ⟨rfl,_,World.drewN_drewN _ _ _⟩|exact ⟨rfl,_,Eq.trans (World.drewN_drewN _ _ _) (congrArg (World.drewN _) (Nat.add_assoc _ _ _))⟩))))
   go_ret
   exact ⟨tq_1,th_⟩
  rw [if_pos bf] at H
  have bl:=qa_ bf
  have bm:=qb_ bf
  clear bf
  obtain ⟨ar,bi,H⟩:=bd_ H
  by_cases bg:(l0_4.length:Int)=ar
  rotate_left
  ·rw [if_neg bg] at H
   have bn:=qc_ bg
   have bo:=qd_ bg
   obtain rfl:=oi_ H
   have cl:=bb6_ BK521.out
   go_wp2_with (first|(go_at_call 57;(with_reducible refine (impl_within.calls a6 0 128 true _ az.out).mono ?_);rintro e w' ⟨rfl,⟨nd,rfl⟩⟩;(try first|exact ⟨rfl,_,World.drewN_drewN _ _ _⟩|exact ⟨rfl,_,Eq.trans (World.drewN_drewN _ _ _) (congrArg (World.drewN _) (Nat.add_assoc _ _ _))⟩))|(go_at_call 125;(with_reducible refine (impl_PagesFor.calls a6 ar _ bi.out).mono ?_);rintro e w' ⟨rfl,⟨nd,rfl⟩⟩;(try first|exact ⟨rfl,_,World.drewN_drewN _ _ _⟩|exact ⟨rfl,_,Eq.trans (World.drewN_drewN _ _ _) (congrArg (World.drewN _) (Nat.add_assoc _ _ _))⟩)))
   repeat (go_quiet (first|(go_at_call 57;(with_reducible refine (impl_within.calls a6 0 128 true _ az.out).mono ?_);rintro e w' ⟨rfl,⟨nd,rfl⟩⟩;(try first|exact ⟨rfl,_,World.drewN_drewN _ _ _⟩|exact ⟨rfl,_,Eq.trans (World.drewN_drewN _ _ _) (congrArg (World.drewN _) (Nat.add_assoc _ _ _))⟩))|(go_at_call 125;(with_reducible refine (impl_PagesFor.calls a6 ar _ bi.out).mono ?_);rintro e w' ⟨rfl,⟨nd,rfl⟩⟩;(try first|exact ⟨rfl,_,World.drewN_drewN _ _ _⟩|exact ⟨rfl,_,Eq.trans (World.drewN_drewN _ _ _) (congrArg (World.drewN _) (Nat.add_assoc _ _ _))⟩)));try go_wp2_with (first|(go_at_call 57;(with_reducible refine (impl_within.calls a6 0 128 true _ az.out).mono ?_);rintro e w' ⟨rfl,⟨nd,rfl⟩⟩;(try first|exact ⟨rfl,_,World.drewN_drewN _ _ _⟩|exact ⟨rfl,_,Eq.trans (World.drewN_drewN _ _ _) (congrArg (World.drewN _) (Nat.add_assoc _ _ _))⟩))|(go_at_call 125;(with_reducible refine (impl_PagesFor.calls a6 ar _ bi.out).mono ?_);rintro e w' ⟨rfl,⟨nd,rfl⟩⟩;(try first|exact ⟨rfl,_,World.drewN_drewN _ _ _⟩|exact ⟨rfl,_,Eq.trans (World.drewN_drewN _ _ _) (congrArg (World.drewN _) (Nat.add_assoc _ _ _))⟩))))
   go_ret
   exact ⟨tq_1,th_⟩
  rw [if_pos bg] at H
  have bn:=qa_ bg
  have bo:=qb_ bg
  clear bg
  obtain rfl:=oi_ H
  have cm:=bb6_ BK521.out
  go_wp2_with (first|(go_at_call 57;(with_reducible refine (impl_within.calls a6 0 128 true _ az.out).mono ?_);rintro e w' ⟨rfl,⟨nd,rfl⟩⟩;(try first|exact ⟨rfl,_,World.drewN_drewN _ _ _⟩|exact ⟨rfl,_,Eq.trans (World.drewN_drewN _ _ _) (congrArg (World.drewN _) (Nat.add_assoc _ _ _))⟩))|(go_at_call 125;(with_reducible refine (impl_PagesFor.calls a6 ar _ bi.out).mono ?_);rintro e w' ⟨rfl,⟨nd,rfl⟩⟩;(try first|exact ⟨rfl,_,World.drewN_drewN _ _ _⟩|exact ⟨rfl,_,Eq.trans (World.drewN_drewN _ _ _) (congrArg (World.drewN _) (Nat.add_assoc _ _ _))⟩)))
  repeat (go_quiet (first|(go_at_call 57;(with_reducible refine (impl_within.calls a6 0 128 true _ az.out).mono ?_);rintro e w' ⟨rfl,⟨nd,rfl⟩⟩;(try first|exact ⟨rfl,_,World.drewN_drewN _ _ _⟩|exact ⟨rfl,_,Eq.trans (World.drewN_drewN _ _ _) (congrArg (World.drewN _) (Nat.add_assoc _ _ _))⟩))|(go_at_call 125;(with_reducible refine (impl_PagesFor.calls a6 ar _ bi.out).mono ?_);rintro e w' ⟨rfl,⟨nd,rfl⟩⟩;(try first|exact ⟨rfl,_,World.drewN_drewN _ _ _⟩|exact ⟨rfl,_,Eq.trans (World.drewN_drewN _ _ _) (congrArg (World.drewN _) (Nat.add_assoc _ _ _))⟩)));try go_wp2_with (first|(go_at_call 57;(with_reducible refine (impl_within.calls a6 0 128 true _ az.out).mono ?_);rintro e w' ⟨rfl,⟨nd,rfl⟩⟩;(try first|exact ⟨rfl,_,World.drewN_drewN _ _ _⟩|exact ⟨rfl,_,Eq.trans (World.drewN_drewN _ _ _) (congrArg (World.drewN _) (Nat.add_assoc _ _ _))⟩))|(go_at_call 125;(with_reducible refine (impl_PagesFor.calls a6 ar _ bi.out).mono ?_);rintro e w' ⟨rfl,⟨nd,rfl⟩⟩;(try first|exact ⟨rfl,_,World.drewN_drewN _ _ _⟩|exact ⟨rfl,_,Eq.trans (World.drewN_drewN _ _ _) (congrArg (World.drewN _) (Nat.add_assoc _ _ _))⟩))))
  go_ret
  exact ⟨tq_1,th_⟩
 rw [if_pos c4] at H
 have bu:=de_ c4
 clear c4
 obtain ⟨c5,H⟩:=fc_ H
 have cn:=de_ c5
 clear c5
 obtain ⟨c6,H⟩:=fc_ H
 have co:=de_ c6
 clear c6
 obtain ⟨au,A7,H⟩:=bd_ H
 by_cases c8:au.toList=([]:List UInt8)
 ·rw [if_pos c8] at H
  have bw:=qa_ c8
  have bx:=qb_ c8
  clear c8
  obtain rfl:=oi_ H
  have av:0≤(x8_1:Int):=od_ tq_2
  have aw:x8_1 < (l0_4.length:Int):=od_ tq_2
  obtain ⟨a9,bh,ab,ac,ae⟩:=at_T86 HR0_4.out x8_1 av aw
  cases bh
  replace ab:=hx_ HB.out ab
  replace ac:=hx_ HB.out ac
  replace ae:=hx_ HB.out ae
  replace av:=eq_true av
  replace aw:=eq_true aw
  go_wp2_with (first|((with_reducible refine gate_dst (N:=4) rfl ?_);(try (refine gate_guard (by rfl) ?_;dsimp only));refine be_ 4 (cs:=#[.int .i64 0,.int .i64 0,.string (⟨#[]⟩:ByteArray)]) 86 ?_;intro a7 hg w9 hbox hb;have z_:=bx1_ (kb_ BK521) th_ hb hbox hg;clear BK521 HB;obtain ⟨BK521,HB,BK525,ao,ap,NB521_525,a5⟩:=z_;clear hb hbox hg;obtain ⟨bb,bc⟩:=an2_ a5 NB521_525;have bp:=bb3_ BK525.out)|(go_at_call 105;(with_reducible refine (impl_RecWord.calls k1 ((rd_T86 l0_4 x8_1).f0) ((rd_T86 l0_4 x8_1).f1) ((rd_T86 l0_4 x8_1).f2) au _ A7.out).mono ?_);rintro e cc ⟨rfl,hb⟩;have z_:=p_ (blk_below (g:=ai) (o:=.cells #[.int .i64 ag,.int .i64 a6,.int .i64 ah,.string af,.slice (some a9) l0_4.length a8,.slice aj aa.length ak] 62 (0,0)) tq_9 hb) <| p_ (blk_below (g:=a7) (o:=.cells #[.int .i64 ((rd_T86 l0_4 x8_1).f0),.int .i64 ((rd_T86 l0_4 x8_1).f1),.string ((rd_T86 l0_4 x8_1).f2)] 86 (0,0)) tq_7 hb) <| a_ (below_step th_ hb);clear BK521 BK525 HB;obtain ⟨BK521,BK525,HB⟩:=z_;(try clear hb)))
  repeat (go_quiet (first|((with_reducible refine gate_dst (N:=4) rfl ?_);(try (refine gate_guard (by rfl) ?_;dsimp only));refine be_ 4 (cs:=#[.int .i64 0,.int .i64 0,.string (⟨#[]⟩:ByteArray)]) 86 ?_;intro a7 hg w9 hbox hb;have z_:=bx1_ (kb_ BK521) th_ hb hbox hg;clear BK521 HB;obtain ⟨BK521,HB,BK525,ao,ap,NB521_525,a5⟩:=z_;clear hb hbox hg;obtain ⟨bb,bc⟩:=an2_ a5 NB521_525;have bp:=bb3_ BK525.out)|(go_at_call 105;(with_reducible refine (impl_RecWord.calls k1 ((rd_T86 l0_4 x8_1).f0) ((rd_T86 l0_4 x8_1).f1) ((rd_T86 l0_4 x8_1).f2) au _ A7.out).mono ?_);rintro e cc ⟨rfl,hb⟩;have z_:=p_ (blk_below (g:=ai) (o:=.cells #[.int .i64 ag,.int .i64 a6,.int .i64 ah,.string af,.slice (some a9) l0_4.length a8,.slice aj aa.length ak] 62 (0,0)) tq_9 hb) <| p_ (blk_below (g:=a7) (o:=.cells #[.int .i64 ((rd_T86 l0_4 x8_1).f0),.int .i64 ((rd_T86 l0_4 x8_1).f1),.string ((rd_T86 l0_4 x8_1).f2)] 86 (0,0)) tq_7 hb) <| a_ (below_step th_ hb);clear BK521 BK525 HB;obtain ⟨BK521,BK525,HB⟩:=z_;(try clear hb)));try go_wp2_with (first|((with_reducible refine gate_dst (N:=4) rfl ?_);(try (refine gate_guard (by rfl) ?_;dsimp only));refine be_ 4 (cs:=#[.int .i64 0,.int .i64 0,.string (⟨#[]⟩:ByteArray)]) 86 ?_;intro a7 hg w9 hbox hb;have z_:=bx1_ (kb_ BK521) th_ hb hbox hg;clear BK521 HB;obtain ⟨BK521,HB,BK525,ao,ap,NB521_525,a5⟩:=z_;clear hb hbox hg;obtain ⟨bb,bc⟩:=an2_ a5 NB521_525;have bp:=bb3_ BK525.out)|(go_at_call 105;(with_reducible refine (impl_RecWord.calls k1 ((rd_T86 l0_4 x8_1).f0) ((rd_T86 l0_4 x8_1).f1) ((rd_T86 l0_4 x8_1).f2) au _ A7.out).mono ?_);rintro e cc ⟨rfl,hb⟩;have z_:=p_ (blk_below (g:=ai) (o:=.cells #[.int .i64 ag,.int .i64 a6,.int .i64 ah,.string af,.slice (some a9) l0_4.length a8,.slice aj aa.length ak] 62 (0,0)) tq_9 hb) <| p_ (blk_below (g:=a7) (o:=.cells #[.int .i64 ((rd_T86 l0_4 x8_1).f0),.int .i64 ((rd_T86 l0_4 x8_1).f1),.string ((rd_T86 l0_4 x8_1).f2)] 86 (0,0)) tq_7 hb) <| a_ (below_step th_ hb);clear BK521 BK525 HB;obtain ⟨BK521,BK525,HB⟩:=z_;(try clear hb))))
  go_ret
  exact ⟨tq_1,th_⟩
 rw [if_neg c8] at H
 have bw:=qc_ c8
 have bx:=qd_ c8
 have cd:=eq_true (od_ tq_2:0≤x8_1)
 obtain ⟨bz,H⟩:=fc_ H
 have ce:=eq_true bz
 have cf:=de_ bz
 clear bz
 obtain ⟨am,b1⟩:∃ y_:List (S86),y_=(l0_4.take (x8_1:Int).toNat):=⟨_,rfl⟩
 replace H:((slices_ContainsFunc_Rec_g124.f am ((rd_T86 l0_4 x8_1).f0) ((rd_T86 l0_4 x8_1).f1) ((rd_T86 l0_4 x8_1).f2)).bind fun ay=>(if ay=true then (some false) else (impl_isFile.l0 k1 l0_4 (l0_4.length:Int) (wrap64 (x8_1+1)) ag a6 ah af l0_4 aa)))=some r:=rh_ b1 H
 have an:=m_ b1
 clear b1
 obtain ⟨ay,ca,H⟩:=bd_ H
 have bq:=m_ H
 clear H
 have av:0≤(x8_1:Int):=od_ tq_2
 have aw:x8_1 < (l0_4.length:Int):=od_ tq_2
 obtain ⟨a9,bh,ab,ac,ae⟩:=at_T86 HR0_4.out x8_1 av aw
 cases bh
 replace ab:=hx_ HB.out ab
 replace ac:=hx_ HB.out ac
 replace ae:=hx_ HB.out ae
 replace av:=eq_true av
 replace aw:=eq_true aw
 go_upto_if 23 with (first|((with_reducible refine gate_dst (N:=4) rfl ?_);(try (refine gate_guard (by rfl) ?_;dsimp only));refine be_ 4 (cs:=#[.int .i64 0,.int .i64 0,.string (⟨#[]⟩:ByteArray)]) 86 ?_;intro a7 hg cg hbox hb;have z_:=bx1_ (kb_ BK521) th_ hb hbox hg;clear BK521 HB;obtain ⟨BK521,HB,BK525,ao,ap,NB521_525,a5⟩:=z_;clear hb hbox hg;obtain ⟨bd,be⟩:=an2_ a5 NB521_525;have b3:=bb3_ BK525.out)|(go_at_call 105;(with_reducible refine (impl_RecWord.calls k1 ((rd_T86 l0_4 x8_1).f0) ((rd_T86 l0_4 x8_1).f1) ((rd_T86 l0_4 x8_1).f2) au _ A7.out).mono ?_);rintro e ch ⟨rfl,hb⟩;have z_:=p_ (blk_below (g:=ai) (o:=.cells #[.int .i64 ag,.int .i64 a6,.int .i64 ah,.string af,.slice (some a9) l0_4.length a8,.slice aj aa.length ak] 62 (0,0)) tq_9 hb) <| p_ (blk_below (g:=a7) (o:=.cells #[.int .i64 ((rd_T86 l0_4 x8_1).f0),.int .i64 ((rd_T86 l0_4 x8_1).f1),.string ((rd_T86 l0_4 x8_1).f2)] 86 (0,0)) tq_7 hb) <| a_ (below_step th_ hb);clear BK521 BK525 HB;obtain ⟨BK521,BK525,HB⟩:=z_;(try clear hb);have b4:=bb6_ BK521.out;have b2:(x8_1:Int)≤((l0_4.length:Int):Int):=od_ tq_2;obtain ⟨i022,hi022,_,hsz22,_⟩:=info_parts info86;have hroom22:l0_4.length≤a8:=b0.out;have hC22:Kd.C k86 _ (some a9) l0_4.length l0_4:=HR0_4.out;have hcut22:=cut_to (P:=Tryz.prog) 59 86 .i64 Tryz.underlying59 hi022 (some a9) l0_4.length a8 x8_1 (od_ tq_2) b2 hroom22;have hr22:=Kd.C_take (m:=(x8_1:Int).toNat) hC22 (by omega);have al:am.length=(x8_1:Int).toNat:=(by rw [an.out,List.length_take];omega);rw [← an.out] at hr22;rw [← al] at hcut22;have HR530:=m_ hr22;have aq:=m_ (show am.length≤a8 from by omega);clear hr22 hC22 hroom22 hi022 hsz22;have KY22:=m_ al;clear al;replace b2:=eq_true b2)|(go_at_call 123;(with_reducible refine (slices_ContainsFunc_Rec_g124.calls _ _ am a7 ((rd_T86 l0_4 x8_1).f0) ((rd_T86 l0_4 x8_1).f1) ((rd_T86 l0_4 x8_1).f2) ay _ ?side1 ?side2 ?side3 ca.out).mono ?_);(case side1=>exact tq_62);(case side2=>exact aq.out);(case side3=>(with_reducible repeat (first|refine blk_drewN ?_ _|refine blk_drew ?_|refine blk_alloc ?_ _));exact BK525.out);rintro e ci ⟨rfl,hb⟩;have z_:=bw2_ (kb_ BK521) (kb_ BK525) th_ hb;clear BK521 BK525 HB;obtain ⟨BK521,BK525,HB⟩:=z_;(try clear hb)))
 repeat (go_quiet (first|((with_reducible refine gate_dst (N:=4) rfl ?_);(try (refine gate_guard (by rfl) ?_;dsimp only));refine be_ 4 (cs:=#[.int .i64 0,.int .i64 0,.string (⟨#[]⟩:ByteArray)]) 86 ?_;intro a7 hg cg hbox hb;have z_:=bx1_ (kb_ BK521) th_ hb hbox hg;clear BK521 HB;obtain ⟨BK521,HB,BK525,ao,ap,NB521_525,a5⟩:=z_;clear hb hbox hg;obtain ⟨bd,be⟩:=an2_ a5 NB521_525;have b3:=bb3_ BK525.out)|(go_at_call 105;(with_reducible refine (impl_RecWord.calls k1 ((rd_T86 l0_4 x8_1).f0) ((rd_T86 l0_4 x8_1).f1) ((rd_T86 l0_4 x8_1).f2) au _ A7.out).mono ?_);rintro e ch ⟨rfl,hb⟩;have z_:=p_ (blk_below (g:=ai) (o:=.cells #[.int .i64 ag,.int .i64 a6,.int .i64 ah,.string af,.slice (some a9) l0_4.length a8,.slice aj aa.length ak] 62 (0,0)) tq_9 hb) <| p_ (blk_below (g:=a7) (o:=.cells #[.int .i64 ((rd_T86 l0_4 x8_1).f0),.int .i64 ((rd_T86 l0_4 x8_1).f1),.string ((rd_T86 l0_4 x8_1).f2)] 86 (0,0)) tq_7 hb) <| a_ (below_step th_ hb);clear BK521 BK525 HB;obtain ⟨BK521,BK525,HB⟩:=z_;(try clear hb);have b4:=bb6_ BK521.out;have b2:(x8_1:Int)≤((l0_4.length:Int):Int):=od_ tq_2;obtain ⟨i022,hi022,_,hsz22,_⟩:=info_parts info86;have hroom22:l0_4.length≤a8:=b0.out;have hC22:Kd.C k86 _ (some a9) l0_4.length l0_4:=HR0_4.out;have hcut22:=cut_to (P:=Tryz.prog) 59 86 .i64 Tryz.underlying59 hi022 (some a9) l0_4.length a8 x8_1 (od_ tq_2) b2 hroom22;have hr22:=Kd.C_take (m:=(x8_1:Int).toNat) hC22 (by omega);have al:am.length=(x8_1:Int).toNat:=(by rw [an.out,List.length_take];omega);rw [← an.out] at hr22;rw [← al] at hcut22;have HR530:=m_ hr22;have aq:=m_ (show am.length≤a8 from by omega);clear hr22 hC22 hroom22 hi022 hsz22;have KY22:=m_ al;clear al;replace b2:=eq_true b2)|(go_at_call 123;(with_reducible refine (slices_ContainsFunc_Rec_g124.calls _ _ am a7 ((rd_T86 l0_4 x8_1).f0) ((rd_T86 l0_4 x8_1).f1) ((rd_T86 l0_4 x8_1).f2) ay _ ?side1 ?side2 ?side3 ca.out).mono ?_);(case side1=>exact tq_62);(case side2=>exact aq.out);(case side3=>(with_reducible repeat (first|refine blk_drewN ?_ _|refine blk_drew ?_|refine blk_alloc ?_ _));exact BK525.out);rintro e ci ⟨rfl,hb⟩;have z_:=bw2_ (kb_ BK521) (kb_ BK525) th_ hb;clear BK521 BK525 HB;obtain ⟨BK521,BK525,HB⟩:=z_;(try clear hb)));go_upto_if 23 with (first|((with_reducible refine gate_dst (N:=4) rfl ?_);(try (refine gate_guard (by rfl) ?_;dsimp only));refine be_ 4 (cs:=#[.int .i64 0,.int .i64 0,.string (⟨#[]⟩:ByteArray)]) 86 ?_;intro a7 hg cg hbox hb;have z_:=bx1_ (kb_ BK521) th_ hb hbox hg;clear BK521 HB;obtain ⟨BK521,HB,BK525,ao,ap,NB521_525,a5⟩:=z_;clear hb hbox hg;obtain ⟨bd,be⟩:=an2_ a5 NB521_525;have b3:=bb3_ BK525.out)|(go_at_call 105;(with_reducible refine (impl_RecWord.calls k1 ((rd_T86 l0_4 x8_1).f0) ((rd_T86 l0_4 x8_1).f1) ((rd_T86 l0_4 x8_1).f2) au _ A7.out).mono ?_);rintro e ch ⟨rfl,hb⟩;have z_:=p_ (blk_below (g:=ai) (o:=.cells #[.int .i64 ag,.int .i64 a6,.int .i64 ah,.string af,.slice (some a9) l0_4.length a8,.slice aj aa.length ak] 62 (0,0)) tq_9 hb) <| p_ (blk_below (g:=a7) (o:=.cells #[.int .i64 ((rd_T86 l0_4 x8_1).f0),.int .i64 ((rd_T86 l0_4 x8_1).f1),.string ((rd_T86 l0_4 x8_1).f2)] 86 (0,0)) tq_7 hb) <| a_ (below_step th_ hb);clear BK521 BK525 HB;obtain ⟨BK521,BK525,HB⟩:=z_;(try clear hb);have b4:=bb6_ BK521.out;have b2:(x8_1:Int)≤((l0_4.length:Int):Int):=od_ tq_2;obtain ⟨i022,hi022,_,hsz22,_⟩:=info_parts info86;have hroom22:l0_4.length≤a8:=b0.out;have hC22:Kd.C k86 _ (some a9) l0_4.length l0_4:=HR0_4.out;have hcut22:=cut_to (P:=Tryz.prog) 59 86 .i64 Tryz.underlying59 hi022 (some a9) l0_4.length a8 x8_1 (od_ tq_2) b2 hroom22;have hr22:=Kd.C_take (m:=(x8_1:Int).toNat) hC22 (by omega);have al:am.length=(x8_1:Int).toNat:=(by rw [an.out,List.length_take];omega);rw [← an.out] at hr22;rw [← al] at hcut22;have HR530:=m_ hr22;have aq:=m_ (show am.length≤a8 from by omega);clear hr22 hC22 hroom22 hi022 hsz22;have KY22:=m_ al;clear al;replace b2:=eq_true b2)|(go_at_call 123;(with_reducible refine (slices_ContainsFunc_Rec_g124.calls _ _ am a7 ((rd_T86 l0_4 x8_1).f0) ((rd_T86 l0_4 x8_1).f1) ((rd_T86 l0_4 x8_1).f2) ay _ ?side1 ?side2 ?side3 ca.out).mono ?_);(case side1=>exact tq_62);(case side2=>exact aq.out);(case side3=>(with_reducible repeat (first|refine blk_drewN ?_ _|refine blk_drew ?_|refine blk_alloc ?_ _));exact BK525.out);rintro e ci ⟨rfl,hb⟩;have z_:=bw2_ (kb_ BK521) (kb_ BK525) th_ hb;clear BK521 BK525 HB;obtain ⟨BK521,BK525,HB⟩:=z_;(try clear hb))))
 (try simp only [Act.put,List.setIfInBounds_toArray,List.set_cons_zero,List.set_cons_succ])
 (try clear b3)
 (try clear b4)
 (try clear bj)
 (try clear b3)
 (try clear b4)
 (try clear bj)
 (try clear ab ac ae)
 have H:=bq.out
 clear bq
 by_cases bs:ay=true
 ·subst bs
  rw [if_pos rfl] at H
  obtain rfl:=oi_ H
  go_wp2
  repeat (go_quiet (fail);try go_wp2)
  go_ret
  exact ⟨tq_1,th_⟩
 replace bs:=Bool.eq_false_iff.mpr bs
 subst bs
 rw [if_neg nf_] at H
 have H':=m_ H
 clear H
 go_wp2
 repeat (go_quiet (fail);try go_wp2)
 go_roundg k1
 case measure=>have:=HK1.out;omega
 case rel=>exact ⟨(wrap64 (x8_1+1)),tq_3,H',⟨tq_14⟩,⟨(kb_ BK521)⟩,⟨th_⟩⟩

def impl_isDir.l0:Nat→List (S90)→Int→Int→Int→Int→Int→ByteArray→List (S86)→List (S90)→Option (Bool)
 | 0,_,_,_,_,_,_,_,_,_=>none
 | k+1,x6,x7,x8,a9,a6,aa,a7,a8,a5=>if x8 < x7 then (if 0≤x8 then (if x8 < (x6.length:Int) then ((impl_EntryWord.f k ((rd_T90 x6 x8).f0) ((rd_T90 x6 x8).f1)).bind fun ab=>(if ab.toList=([]:List UInt8) then (some false) else (if x8 > 0 then (if 0≤(wrap64 (x8 - 1)) then (if (wrap64 (x8 - 1)) < (a5.length:Int) then (if ((Op.bytesLess (((rd_T90 a5 (wrap64 (x8 - 1))).f1).toList) (((rd_T90 x6 x8).f1).toList))=true) then (impl_isDir.l0 k x6 x7 (wrap64 (x8+1)) a9 a6 aa a7 a8 a5) else (some false)) else (none)) else (none)) else (impl_isDir.l0 k x6 x7 (wrap64 (x8+1)) a9 a6 aa a7 a8 a5)))) else (none)) else (none)) else (if a6=0 then (if a7.toList=([]:List UInt8) then (if (a8.length:Int)=0 then (some (decide ((a5.length:Int)≤6))) else (some false)) else (some false)) else (some false))
def impl_isDir.f (k:Nat) (a6:Int) (a7:Int) (a8:Int) (a9:ByteArray) (aa:List (S86)) (a5:List (S90)):Option (Bool):=impl_isDir.l0 k a5 (a5.length:Int) 0 a6 a7 a8 a9 aa a5
def impl_isDir.T4:Bool × List (List Nat × List Nat):=(true,[([],[]),([0],[0]),([1],[1]),([2,1],[2]),([3],[3]),([4,3],[3,4]),([5,3,3],[3,5]),([6],[6]),([7,6],[6,7]),([6],[6]),([9,6],[6,9]),([6],[6]),([11,6],[6,11]),([10,12,6],[6,10,12]),([13,6],[6,13]),([14,6],[6,14]),([8,15,6],[6,8,15]),([6,16,3],[3,6,16]),([3,17],[3,17])])
def impl_isDir.B4:List Nat:=[0,1,3,7,15,31,63,127,255,127,639,127,2175,7807,15999,32383,65535,131071,262143]
theorem impl_isDir.tab4:rtab .any (opsOf Tryz.f109 4)=impl_isDir.T4:=by kernel_rfl
theorem impl_isDir.bits4:waitsOk impl_isDir.T4.2 impl_isDir.B4=true:=by kernel_rfl
theorem impl_isDir.calls (k:Nat) (ar:Int) (al:Int) (au:Int) (am:ByteArray) (av:Option Addr) (aw:Nat) (l0_4:List (S86)) (az:Option Addr) (ax:Nat) (a5:List (S90)) (r:Bool) (w:World) (b1:Kd.C k86 w av l0_4.length l0_4) (b2:l0_4.length≤aw) (b3:Kd.C k90 w az a5.length a5) (b4:a5.length≤ax) (h:impl_isDir.f k ar al au am l0_4 a5=some r) :
  Calls Tryz.prog 109 #[.agg #[.int .i64 ar,.int .i64 al,.int .i64 au,.string am,.slice av l0_4.length aw,.slice az a5.length ax]] w fun e w'=>e=.returned (.bool r)∧Below w.heap.size w w':=by
 have hu62:=Tryz.underlying62
 have hu90:=Tryz.underlying90
 have HR0_4:=m_ b1
 have bx:=m_ b2
 clear b1 b2
 have HR0_5:=m_ b3
 have bz:=m_ b4
 clear b3 b4
 have HB:=m_ (Below.refl w.heap.size w)
 unfold impl_isDir.f at h
 have H:=h
 clear h
 have H':=m_ H
 clear H
 go_enter Tryz.func109,Tryz.ntmps109
 go_wp2_with (first|((with_reducible refine gate_dst (N:=1) rfl ?_);(try (refine gate_guard (by rfl) ?_;dsimp only));refine be_ 1 (cs:=#[.int .i64 ar,.int .i64 al,.int .i64 au,.string am,.slice av l0_4.length aw,.slice az a5.length ax]) 62 ?_;intro af hg w2 hbox hb;have z_:=bx0_ th_ hb hbox hg;clear HB;obtain ⟨HB,a6,ca,cb⟩:=z_;clear hb hbox hg;have br:=bb6_ a6.out))
 go_loopg [8] k (fun kq v8 w'=>∃ (x8_1:Int),v8=.int .i64 x8_1∧Aside0 (impl_isDir.l0 kq a5 (a5.length:Int) x8_1 ar al au am l0_4 a5=some r)∧Aside0 (kq≤k)∧Aside0 (w'.heap[af]?=some (.cells #[.int .i64 ar,.int .i64 al,.int .i64 au,.string am,(.slice av l0_4.length aw),(.slice az a5.length ax)] 62 (0,0)))∧Aside0 (Below w.heap.size w w'))
 case atStart=>exact ⟨(0),tq_3,H',⟨Nat.le_refl _⟩,⟨(kb_ a6)⟩,⟨th_⟩⟩
 case round =>
 clear H'
 try clear c1;try clear p2;try clear br
 obtain ⟨x8_1,rfl,HA,HK1,a6,HB⟩:=hrel
 cases gk with
 | zero=>exact absurd HA.out (by simp [impl_isDir.l0])
 | succ k1 =>
 have H:=HA.out
 clear HA
 simp only [impl_isDir.l0] at H
 by_cases c4:x8_1 < (a5.length:Int)
 rotate_left
 ·rw [if_neg c4] at H
  have bs:=df_ c4
  clear c4
  by_cases b8:al=0
  rotate_left
  ·rw [if_neg b8] at H
   have be:=qc_ b8
   have bf:=qd_ b8
   obtain rfl:=oi_ H
   have ch:=bb6_ a6.out
   go_wp2
   go_ret
   exact ⟨tq_1,th_⟩
  rw [if_pos b8] at H
  have be:=qa_ b8
  have bf:=qb_ b8
  clear b8
  by_cases b9:am.toList=([]:List UInt8)
  rotate_left
  ·rw [if_neg b9] at H
   have bg:=qc_ b9
   have bh:=qd_ b9
   obtain rfl:=oi_ H
   have ci:=bb6_ a6.out
   go_wp2
   go_ret
   exact ⟨tq_1,th_⟩
  rw [if_pos b9] at H
  have bg:=qa_ b9
  have bh:=qb_ b9
  clear b9
  by_cases b5:(l0_4.length:Int)=0
  ·rw [if_pos b5] at H
   have bi:=qa_ b5
   have bj:=qb_ b5
   clear b5
   obtain rfl:=oi_ H
   have cj:=bb6_ a6.out
   go_wp2
   go_ret
   exact ⟨tq_1,th_⟩
  rw [if_neg b5] at H
  have bi:=qc_ b5
  have bj:=qd_ b5
  have cc:¬ (l0_4=[]):=fun h_=>b5 (by rw [h_];rfl)
  obtain rfl:=oi_ H
  have ck:=bb6_ a6.out
  go_wp2
  go_ret
  exact ⟨tq_1,th_⟩
 rw [if_pos c4] at H
 have bs:=de_ c4
 clear c4
 obtain ⟨c5,H⟩:=fc_ H
 have cl:=de_ c5
 clear c5
 obtain ⟨c6,H⟩:=fc_ H
 have cm:=de_ c6
 clear c6
 obtain ⟨b0,A7,H⟩:=bd_ H
 by_cases c8:b0.toList=([]:List UInt8)
 ·rw [if_pos c8] at H
  have bu:=qa_ c8
  have bv:=qb_ c8
  clear c8
  obtain rfl:=oi_ H
  have an:0≤(x8_1:Int):=od_ tq_2
  have ao:x8_1 < (a5.length:Int):=od_ tq_2
  obtain ⟨ag,ay,a9,aa⟩:=at_T90 HR0_5.out x8_1 an ao
  cases ay
  replace a9:=hx_ HB.out a9
  replace aa:=hx_ HB.out aa
  replace an:=eq_true an
  replace ao:=eq_true ao
  try go_wp2_with (first|((with_reducible refine gate_dst (N:=4) rfl ?_);(try (refine gate_guard (by rfl) ?_;dsimp only));refine be_ 4 (cs:=#[.int .i64 0,.string (⟨#[]⟩:ByteArray)]) 90 ?_;intro a8 hg w9 hbox hb;have z_:=bx1_ (kb_ a6) th_ hb hbox hg;clear a6 HB;obtain ⟨a6,HB,a7,b6,b7,ab,ac⟩:=z_;clear hb hbox hg;obtain ⟨ap,aq⟩:=an2_ ac ab;have cn:=bb2_ a7.out))
  have n0_:Aside0 (((w9.setCell ⟨a8,0,none⟩ (.int .i64 ((rd_T90 a5 x8_1).f0))).setCell ⟨a8,1,none⟩ (.string ((rd_T90 a5 x8_1).f1))).heap[af]?=some (.cells #[.int .i64 ar,.int .i64 al,.int .i64 au,.string am,.slice av l0_4.length aw,.slice (some ag) a5.length ax] 62 (0,0))):=⟨tb_⟩
  have n1_:Aside0 (((w9.setCell ⟨a8,0,none⟩ (.int .i64 ((rd_T90 a5 x8_1).f0))).setCell ⟨a8,1,none⟩ (.string ((rd_T90 a5 x8_1).f1))).heap[a8]?=some (.cells #[.int .i64 ((rd_T90 a5 x8_1).f0),.string ((rd_T90 a5 x8_1).f1)] 90 (0,0))):=⟨tb_⟩
  have n2_:Aside0 (Below w.heap.size w ((w9.setCell ⟨a8,0,none⟩ (.int .i64 ((rd_T90 a5 x8_1).f0))).setCell ⟨a8,1,none⟩ (.string ((rd_T90 a5 x8_1).f1)))):=⟨th_⟩
  (try clear a6)
  (try clear a7)
  (try clear HB)
  generalize ((w9.setCell ⟨a8,0,none⟩ (.int .i64 ((rd_T90 a5 x8_1).f0))).setCell ⟨a8,1,none⟩ (.string ((rd_T90 a5 x8_1).f1)))=co at n0_ n1_ n2_ ⊢
  have a6:=n0_
  have a7:=n1_
  have HB:=n2_
  clear n0_ n1_ n2_
  have z_:=dw2_ a6 a7 HB
  clear a6 a7 HB
  obtain ⟨a6,a7,HB⟩:=z_
  refine start_ (n:=19) (S:=fun w'=>w'.cell? ⟨a8,0,none⟩=some (.int .i64 ((rd_T90 a5 x8_1).f0))∧w'.cell? ⟨a8,1,none⟩=some (.string ((rd_T90 a5 x8_1).f1))) (ds:=[]) bq_8 kr_ rfl rfl (bk2_ a7.out) (fun hHeld=>?_);refine with_tabW impl_isDir.tab4 impl_isDir.bits4 (fun HT_ HW_=>?_)
  generalize co.drew=ct at a6 a7 HB hHeld ⊢
  refine tr_ 0 13 bq_200 HT_ HW_ hHeld ?_
  refine one_ (i:=1) (N:=some 14) bq_9 rfl rfl (one_of HT_.out kr_) (by decide) (fun K hK=>?_)
  refine goes_ Tryz.func107 kr_ rfl #[.agg #[.int .i64 ((rd_T90 a5 x8_1).f0),.string ((rd_T90 a5 x8_1).f1)]] (by rfl) rfl rfl tq_0 ?_
  with_reducible refine (impl_EntryWord.calls k1 ((rd_T90 a5 x8_1).f0) ((rd_T90 a5 x8_1).f1) b0 _ A7.out).mono ?_
  rintro e cu ⟨rfl,hb⟩
  refine ⟨_,rfl,?_⟩
  have z_:=bw2_ (kb_ a6) (kb_ a7) th_ hb
  clear a6 a7 HB
  obtain ⟨a6,a7,HB⟩:=z_
  (try clear hb)
  refine hK.out _ _ (bk2_ a7.out) (fun hHeld=>?_)
  clear hK K
  refine nm_ (some 14) ?_
  refine yr_ 2 15 bq_10 HT_ ?_
  refine yr_ 3 16 bq_11 HT_ ?_
  refine ur_ 4 17 bq_12 HT_ ?_
  refine ur_ 5 18 bq_13 HT_ ?_
  refine ur_ 6 19 bq_14 HT_ ?_
  refine ur_ 7 20 bq_15 HT_ ?_
  refine ur_ 8 21 bq_35 HT_ ?_
  refine ur_ 9 22 bq_36 HT_ ?_
  refine ur_ 10 23 bq_97 HT_ ?_
  refine ur_ 11 24 bq_98 HT_ ?_
  refine ur_ 12 25 bq_37 HT_ ?_
  refine ur_ 13 26 bq_38 HT_ ?_
  refine ur_ 14 27 bq_16 HT_ ?_
  refine ur_ 15 28 bq_17 HT_ ?_
  refine ur_ 16 29 bq_18 HT_ ?_
  refine ur_ 17 30 bq_19 HT_ ?_
  refine yr_ 18 31 bq_20 HT_ ?_
  refine done_ (done_of HT_.out kr_) ?_
  try go_wp2
  go_ret
  exact ⟨tq_1,th_⟩
 rw [if_neg c8] at H
 have bu:=qc_ c8
 have bv:=qd_ c8
 by_cases bc:x8_1 > 0
 rotate_left
 ·rw [if_neg bc] at H
  have bl:=df_ bc
  clear bc
  have H':=m_ H
  clear H
  have an:0≤(x8_1:Int):=od_ tq_2
  have ao:x8_1 < (a5.length:Int):=od_ tq_2
  obtain ⟨ag,ay,a9,aa⟩:=at_T90 HR0_5.out x8_1 an ao
  cases ay
  replace a9:=hx_ HB.out a9
  replace aa:=hx_ HB.out aa
  replace an:=eq_true an
  replace ao:=eq_true ao
  try go_wp2_with (first|((with_reducible refine gate_dst (N:=4) rfl ?_);(try (refine gate_guard (by rfl) ?_;dsimp only));refine be_ 4 (cs:=#[.int .i64 0,.string (⟨#[]⟩:ByteArray)]) 90 ?_;intro a8 hg bp hbox hb;have z_:=bx1_ (kb_ a6) th_ hb hbox hg;clear a6 HB;obtain ⟨a6,HB,a7,b6,b7,ab,ac⟩:=z_;clear hb hbox hg;obtain ⟨ap,aq⟩:=an2_ ac ab;have cp:=bb2_ a7.out))
  have n0_:Aside0 (((bp.setCell ⟨a8,0,none⟩ (.int .i64 ((rd_T90 a5 x8_1).f0))).setCell ⟨a8,1,none⟩ (.string ((rd_T90 a5 x8_1).f1))).heap[af]?=some (.cells #[.int .i64 ar,.int .i64 al,.int .i64 au,.string am,.slice av l0_4.length aw,.slice (some ag) a5.length ax] 62 (0,0))):=⟨tb_⟩
  have n1_:Aside0 (((bp.setCell ⟨a8,0,none⟩ (.int .i64 ((rd_T90 a5 x8_1).f0))).setCell ⟨a8,1,none⟩ (.string ((rd_T90 a5 x8_1).f1))).heap[a8]?=some (.cells #[.int .i64 ((rd_T90 a5 x8_1).f0),.string ((rd_T90 a5 x8_1).f1)] 90 (0,0))):=⟨tb_⟩
  have n2_:Aside0 (Below w.heap.size w ((bp.setCell ⟨a8,0,none⟩ (.int .i64 ((rd_T90 a5 x8_1).f0))).setCell ⟨a8,1,none⟩ (.string ((rd_T90 a5 x8_1).f1)))):=⟨th_⟩
  (try clear a6)
  (try clear a7)
  (try clear HB)
  generalize ((bp.setCell ⟨a8,0,none⟩ (.int .i64 ((rd_T90 a5 x8_1).f0))).setCell ⟨a8,1,none⟩ (.string ((rd_T90 a5 x8_1).f1)))=cq at n0_ n1_ n2_ ⊢
  have a6:=n0_
  have a7:=n1_
  have HB:=n2_
  clear n0_ n1_ n2_
  have z_:=dw2_ a6 a7 HB
  clear a6 a7 HB
  obtain ⟨a6,a7,HB⟩:=z_
  refine start_ (n:=19) (S:=fun w'=>w'.cell? ⟨a8,0,none⟩=some (.int .i64 ((rd_T90 a5 x8_1).f0))∧w'.cell? ⟨a8,1,none⟩=some (.string ((rd_T90 a5 x8_1).f1))) (ds:=[]) bq_8 kr_ rfl rfl (bk2_ a7.out) (fun hHeld=>?_);refine with_tabW impl_isDir.tab4 impl_isDir.bits4 (fun HT_ HW_=>?_)
  generalize cq.drew=cv at a6 a7 HB hHeld ⊢
  refine tr_ 0 13 bq_200 HT_ HW_ hHeld ?_
  refine one_ (i:=1) (N:=some 14) bq_9 rfl rfl (one_of HT_.out kr_) (by decide) (fun K hK=>?_)
  refine goes_ Tryz.func107 kr_ rfl #[.agg #[.int .i64 ((rd_T90 a5 x8_1).f0),.string ((rd_T90 a5 x8_1).f1)]] (by rfl) rfl rfl tq_0 ?_
  with_reducible refine (impl_EntryWord.calls k1 ((rd_T90 a5 x8_1).f0) ((rd_T90 a5 x8_1).f1) b0 _ A7.out).mono ?_
  rintro e cw ⟨rfl,hb⟩
  refine ⟨_,rfl,?_⟩
  have z_:=bw2_ (kb_ a6) (kb_ a7) th_ hb
  clear a6 a7 HB
  obtain ⟨a6,a7,HB⟩:=z_
  (try clear hb)
  refine hK.out _ _ (bk2_ a7.out) (fun hHeld=>?_)
  clear hK K
  refine nm_ (some 14) ?_
  refine yr_ 2 15 bq_10 HT_ ?_
  refine yr_ 3 16 bq_11 HT_ ?_
  refine yr_ 4 17 bq_12 HT_ ?_
  refine yr_ 5 18 bq_13 HT_ ?_
  refine yr_ 6 19 bq_14 HT_ ?_
  refine ur_ 7 20 bq_15 HT_ ?_
  refine ur_ 8 21 bq_35 HT_ ?_
  refine ur_ 9 22 bq_36 HT_ ?_
  refine ur_ 10 23 bq_97 HT_ ?_
  refine ur_ 11 24 bq_98 HT_ ?_
  refine ur_ 12 25 bq_37 HT_ ?_
  refine ur_ 13 26 bq_38 HT_ ?_
  refine ur_ 14 27 bq_16 HT_ ?_
  refine ur_ 15 28 bq_17 HT_ ?_
  refine ur_ 16 29 bq_18 HT_ ?_
  refine yr_ 17 30 bq_19 HT_ ?_
  refine yr_ 18 31 bq_20 HT_ ?_
  refine done_ (done_of HT_.out kr_) ?_
  try go_wp2
  go_roundg k1
  case measure=>have:=HK1.out;omega
  case rel=>exact ⟨(wrap64 (x8_1+1)),tq_3,H',⟨tq_14⟩,⟨(kb_ a6)⟩,⟨th_⟩⟩
 rw [if_pos bc] at H
 have bl:=de_ bc
 clear bc
 obtain ⟨ji16,hji16⟩:∃ j_:Int,(wrap64 (x8_1 - 1))=j_:=⟨_,rfl⟩
 replace H:(if 0≤(ji16) then (if (ji16) < (a5.length:Int) then (if ((Op.bytesLess (((rd_T90 a5 (ji16)).f1).toList) (((rd_T90 a5 x8_1).f1).toList))=true) then (impl_isDir.l0 k1 a5 (a5.length:Int) (wrap64 (x8_1+1)) ar al au am l0_4 a5) else (some false)) else (none)) else (none))=some r:=by first|(rw [hji16] at H;exact H)|(simp only [hji16] at H ⊢;exact H)
 (try rw [hji16] at A7)
 have hji16w:(IntKind.i64.wrap (x8_1 - 1))=ji16:=(i64_w _).trans hji16
 obtain ⟨cd,H⟩:=fc_ H
 have ce:=de_ cd
 clear cd
 obtain ⟨cf,H⟩:=fc_ H
 have cg:=de_ cf
 clear cf
 have bm:=m_ H
 clear H
 have an:0≤(x8_1:Int):=od_ tq_2
 have ao:x8_1 < (a5.length:Int):=od_ tq_2
 obtain ⟨ag,ay,a9,aa⟩:=at_T90 HR0_5.out x8_1 an ao
 cases ay
 replace a9:=hx_ HB.out a9
 replace aa:=hx_ HB.out aa
 replace an:=eq_true an
 replace ao:=eq_true ao
 try go_wp2_with (first|((with_reducible refine gate_dst (N:=4) rfl ?_);(try (refine gate_guard (by rfl) ?_;dsimp only));refine be_ 4 (cs:=#[.int .i64 0,.string (⟨#[]⟩:ByteArray)]) 90 ?_;intro a8 hg bq hbox hb;have z_:=bx1_ (kb_ a6) th_ hb hbox hg;clear a6 HB;obtain ⟨a6,HB,a7,b6,b7,ab,ac⟩:=z_;clear hb hbox hg;obtain ⟨ap,aq⟩:=an2_ ac ab;have bn:=bb2_ a7.out))
 have n0_:Aside0 (((bq.setCell ⟨a8,0,none⟩ (.int .i64 ((rd_T90 a5 x8_1).f0))).setCell ⟨a8,1,none⟩ (.string ((rd_T90 a5 x8_1).f1))).heap[af]?=some (.cells #[.int .i64 ar,.int .i64 al,.int .i64 au,.string am,.slice av l0_4.length aw,.slice (some ag) a5.length ax] 62 (0,0))):=⟨tb_⟩
 have n1_:Aside0 (((bq.setCell ⟨a8,0,none⟩ (.int .i64 ((rd_T90 a5 x8_1).f0))).setCell ⟨a8,1,none⟩ (.string ((rd_T90 a5 x8_1).f1))).heap[a8]?=some (.cells #[.int .i64 ((rd_T90 a5 x8_1).f0),.string ((rd_T90 a5 x8_1).f1)] 90 (0,0))):=⟨tb_⟩
 have n2_:Aside0 (Below w.heap.size w ((bq.setCell ⟨a8,0,none⟩ (.int .i64 ((rd_T90 a5 x8_1).f0))).setCell ⟨a8,1,none⟩ (.string ((rd_T90 a5 x8_1).f1)))):=⟨th_⟩
 (try clear a6)
 (try clear a7)
 (try clear HB)
 generalize ((bq.setCell ⟨a8,0,none⟩ (.int .i64 ((rd_T90 a5 x8_1).f0))).setCell ⟨a8,1,none⟩ (.string ((rd_T90 a5 x8_1).f1)))=cr at n0_ n1_ n2_ ⊢
 have a6:=n0_
 have a7:=n1_
 have HB:=n2_
 clear n0_ n1_ n2_
 have z_:=dw2_ a6 a7 HB
 clear a6 a7 HB
 obtain ⟨a6,a7,HB⟩:=z_
 have ba:0≤((ji16):Int):=od_ tq_2
 have bb:(ji16) < (a5.length:Int):=od_ tq_2
 obtain ⟨bo,bw,ah,ai⟩:=at_T90 HR0_5.out (ji16) ba bb
 have aj:=ai
 have ak:=ah
 obtain rfl:ag=bo:=(by injection bw)
 replace ah:=hx_ HB.out ah
 replace ai:=hx_ HB.out ai
 replace ba:=eq_true ba
 replace bb:=eq_true bb
 refine start_ (n:=19) (S:=fun w'=>w'.cell? ⟨a8,0,none⟩=some (.int .i64 ((rd_T90 a5 x8_1).f0))∧w'.cell? ⟨a8,1,none⟩=some (.string ((rd_T90 a5 x8_1).f1))∧w'.cell? ⟨af,0,none⟩=some (.int .i64 ar)∧w'.cell? ⟨af,1,none⟩=some (.int .i64 al)∧w'.cell? ⟨af,2,none⟩=some (.int .i64 au)∧w'.cell? ⟨af,3,none⟩=some (.string am)∧w'.cell? ⟨af,4,none⟩=some (.slice av l0_4.length aw)∧w'.cell? ⟨af,5,none⟩=some (.slice (some ag) a5.length ax)∧w'.cell? (ag.add (((ji16)).toNat * 2))=some (.int .i64 ((rd_T90 a5 (ji16)).f0))∧w'.cell? ⟨(ag.add (((ji16)).toNat * 2)).block,(ag.add (((ji16)).toNat * 2)).off+1,none⟩=some (.string ((rd_T90 a5 (ji16)).f1))) (ds:=[]) bq_8 kr_ rfl rfl (bc2_ a7.out (bc6_ a6.out ⟨((HB.out.cell (World.block_lt_of_cell? w _ ak)).trans ak),((HB.out.cell (World.block_lt_of_cell? w _ aj)).trans aj)⟩)) (fun hHeld=>?_);refine with_tabW impl_isDir.tab4 impl_isDir.bits4 (fun HT_ HW_=>?_)
 generalize cr.drew=cx at a6 a7 HB ah ai hHeld ⊢
 refine tr_ 0 13 bq_200 HT_ HW_ hHeld ?_
 refine one_ (i:=1) (N:=some 14) bq_9 rfl rfl (one_of HT_.out kr_) (by decide) (fun K hK=>?_)
 refine goes_ Tryz.func107 kr_ rfl #[.agg #[.int .i64 ((rd_T90 a5 x8_1).f0),.string ((rd_T90 a5 x8_1).f1)]] (by rfl) rfl rfl tq_0 ?_
 with_reducible refine (impl_EntryWord.calls k1 ((rd_T90 a5 x8_1).f0) ((rd_T90 a5 x8_1).f1) b0 _ A7.out).mono ?_
 rintro e cy ⟨rfl,hb⟩
 refine ⟨_,rfl,?_⟩
 have z_:=bw2_ (kb_ a6) (kb_ a7) th_ hb
 clear a6 a7 HB
 obtain ⟨a6,a7,HB⟩:=z_
 (try clear hb)
 refine hK.out _ _ (bc2_ a7.out (bc6_ a6.out ⟨((HB.out.cell (World.block_lt_of_cell? w _ ak)).trans ak),((HB.out.cell (World.block_lt_of_cell? w _ aj)).trans aj)⟩)) (fun hHeld=>?_)
 clear hK K
 refine nm_ (some 14) ?_
 refine yr_ 2 15 bq_10 HT_ ?_
 refine yr_ 3 16 bq_11 HT_ ?_
 refine yr_ 4 17 bq_12 HT_ ?_
 refine yr_ 5 18 bq_13 HT_ ?_
 refine yr_ 6 19 bq_14 HT_ ?_
 refine yr_ 7 20 bq_15 HT_ ?_
 refine yr_ 9 22 #[T_,T_,T_,T_,T_,T_,T_,T_,F_,T_,F_,F_,F_,F_,F_,F_,F_,F_,F_] HT_ ?_
 refine yr_ 11 24 #[T_,T_,T_,T_,T_,T_,T_,T_,F_,T_,F_,T_,F_,F_,F_,F_,F_,F_,F_] HT_ ?_
 refine yr_ 12 25 #[T_,T_,T_,T_,T_,T_,T_,T_,F_,T_,F_,T_,T_,F_,F_,F_,F_,F_,F_] HT_ ?_
 refine tr_ 8 21 #[T_,T_,T_,T_,T_,T_,T_,T_,T_,T_,F_,T_,T_,F_,F_,F_,F_,F_,F_] HT_ HW_ hHeld ?_
 refine tr_ 10 23 bq_37 HT_ HW_ hHeld ?_
 refine yr_ 13 26 bq_38 HT_ ?_
 refine yr_ 14 27 bq_16 HT_ ?_
 refine tr_ 15 28 bq_17 HT_ HW_ hHeld ?_
 refine yr_ 16 29 bq_18 HT_ ?_
 refine yr_ 17 30 bq_19 HT_ ?_
 refine yr_ 18 31 bq_20 HT_ ?_
 refine done_ (done_of HT_.out kr_) ?_
 go_upto_if 31 with (fail)
 (try clear aq ap)
 (try clear bn)
 (try clear br)
 (try clear bn)
 (try clear br)
 (try clear a9 aa)
 (try clear ah ai)
 have H:=bm.out
 clear bm
 by_cases bd:((Op.bytesLess (((rd_T90 a5 (ji16)).f1).toList) (((rd_T90 a5 x8_1).f1).toList))=true)
 ·rw [if_pos bd] at H
  have ae:(Op.bytesLess (((rd_T90 a5 (ji16)).f1).toList) (((rd_T90 a5 x8_1).f1).toList))=true:=bd
  have c26b0q:(Op.bytesLess (((rd_T90 a5 x8_1).f1).toList) (((rd_T90 a5 (ji16)).f1).toList) || ((((rd_T90 a5 x8_1).f1).toList) == (((rd_T90 a5 (ji16)).f1).toList)))=false:=by rw [bl_leq,ae];rfl
  clear bd
  (first|rw [ae]|(simp only [i64_w,i32_w];rw [ae])|rw [bl_leq,ae]|rw [bl_gtr,ae]|skip)
  have H':=m_ H
  clear H
  go_wp2
  go_roundg k1
  case measure=>have:=HK1.out;omega
  case rel=>exact ⟨(wrap64 (x8_1+1)),tq_3,H',⟨tq_14⟩,⟨(kb_ a6)⟩,⟨th_⟩⟩
 rw [if_neg bd] at H
 have ae:(Op.bytesLess (((rd_T90 a5 (ji16)).f1).toList) (((rd_T90 a5 x8_1).f1).toList))=false:=by simpa using bd
 have c26b0q:(Op.bytesLess (((rd_T90 a5 x8_1).f1).toList) (((rd_T90 a5 (ji16)).f1).toList) || ((((rd_T90 a5 x8_1).f1).toList) == (((rd_T90 a5 (ji16)).f1).toList)))=true:=by rw [bl_leq,ae];rfl
 clear bd
 (first|rw [ae]|(simp only [i64_w,i32_w];rw [ae])|rw [bl_leq,ae]|rw [bl_gtr,ae]|skip)
 obtain rfl:=oi_ H
 go_wp2
 go_ret
 exact ⟨(by first|rfl|(simp [errW_none,errW_some] <;> rfl)|(simp only [← hji16];first|rfl|(simp [errW_none,errW_some] <;> rfl))|(simp [*,errW_none,errW_some] <;> rfl)),th_⟩

end Go.Proofs.YtleoknilacjakaaGreatDoor.PFnExactReadPart
