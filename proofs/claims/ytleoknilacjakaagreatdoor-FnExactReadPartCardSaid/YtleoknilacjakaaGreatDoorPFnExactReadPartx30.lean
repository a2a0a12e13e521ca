/- Contracts of Go functions: each call returns what the Lean function beside it computes. Conditions: as each theorem states them. -/
import Derived.Test.YtleoknilacjakaaGreatDoorPkFnExactReadPart
import Derived.Test.YtleoknilacjakaaGreatDoorPFnExactReadPartx3
import Derived.Test.YtleoknilacjakaaGreatDoorPFnExactReadPartx27
namespace Go.Proofs.YtleoknilacjakaaGreatDoor.PFnExactReadPart
open Go.RowKit Go.Proofs.YtleoknilacjakaaGreatDoorW.PrintWords Go.Proofs.YtleoknilacjakaaGreatDoorW.PrintLast Go.Proofs.YtleoknilacjakaaGreatDoorW.PrintMore
attribute [local go_sem] max2_int min2_int max_two min_two max_three min_three max_four min_four setCell_drewN   -- for this text's walks alone
set_option linter.unusedVariables false
set_option maxHeartbeats 8000000
set_option maxRecDepth 100000
set_option linter.unusedSimpArgs false

def laws_eqPart.f (k:Nat) (a5:Int) (a6:List Int) (a7:List (S62)) (a8:Int) (a9:List Int) (aa:List (S62)):Option (Bool):=if a5=a8 then ((laws_eqIntS.f k a6 a9).bind fun ab=>(if ab=true then ((laws_eqInodeS.f k a7 aa).bind fun ac=>(if ac=true then (some true) else (some false))) else (some false))) else (some false)
theorem laws_eqPart.calls (k:Nat) (ah:Int) (ai:Option Addr) (aj:Nat) (a9:List Int) (ak:Option Addr) (al:Nat) (aa:List (S62)) (am:Int) (an:Option Addr) (ao:Nat) (ab:List Int) (ap:Option Addr) (aq:Nat) (ac:List (S62)) (r:Bool) (w:World) (ar:Kd.C (Kd.int .i64) w ai a9.length a9) (au:a9.length≤aj) (av:Kd.C k62 w ak aa.length aa) (aw:aa.length≤al) (ax:Kd.C (Kd.int .i64) w an ab.length ab) (ay:ab.length≤ao) (az:Kd.C k62 w ap ac.length ac) (b0:ac.length≤aq) (h:laws_eqPart.f k ah a9 aa am ab ac=some r) :
  Calls Tryz.prog 9 #[.agg #[.int .i64 ah,.slice ai a9.length aj,.slice ak aa.length al],.agg #[.int .i64 am,.slice an ab.length ao,.slice ap ac.length aq]] w fun e w'=>e=.returned (.bool r)∧Below w.heap.size w w':=by
 have hu31:=Tryz.underlying31
 have HR0_1:=m_ ar
 have b1:=m_ au
 clear ar au
 have HR0_2:=m_ av
 have b2:=m_ aw
 clear av aw
 have HR1_1:=m_ ax
 have b3:=m_ ay
 clear ax ay
 have b4:=m_ az
 have b5:=m_ b0
 clear az b0
 have HB:=m_ (Below.refl w.heap.size w)
 unfold laws_eqPart.f at h
 have H:=h
 clear h
 have bh:=m_ H
 clear H
 go_enter Tryz.func9,Tryz.ntmps9
 go_upto_if 9 with (first|((with_reducible refine gate_dst (N:=2) rfl ?_);refine be_ 2 (cs:=#[.int .i64 ah,.slice ai a9.length aj,.slice ak aa.length al]) 31 ?_;intro bi hg w4 hbox hb;have z_:=bx0_ th_ hb hbox hg;clear HB;obtain ⟨HB,a5,bj,bl⟩:=z_;clear hb hbox hg)|((with_reducible refine gate_dst (N:=3) rfl ?_);refine be_ 3 (cs:=#[.int .i64 am,.slice an ab.length ao,.slice ap ac.length aq]) 31 ?_;intro bm hg w5 hbox hb;have z_:=bx1_ (kb_ a5) th_ hb hbox hg;clear a5 HB;obtain ⟨a5,HB,a8,bn,bo,a6,a7⟩:=z_;clear hb hbox hg;obtain ⟨bu,bv⟩:=an2_ a6 a7;have bp:=bb3_ a5.out;have bq:=bb3_ a8.out))
 (try simp only [Act.put,List.setIfInBounds_toArray,List.set_cons_zero,List.set_cons_succ])
 (try clear bp)
 (try clear bq)
 (try clear bp)
 (try clear bq)
 have H:=bh.out
 clear bh
 by_cases c9:ah=am
 rotate_left
 ·rw [if_neg c9] at H
  have ae:=qc_ c9
  have bg:=qd_ c9
  (first|rw [ae]|(simp only [i64_w,i32_w];rw [ae])|skip)
  obtain rfl:=oi_ H
  go_wp2
  go_ret
  exact ⟨tq_1,th_⟩
 rw [if_pos c9] at H
 have ae:=qa_ c9
 have bg:=qb_ c9
 clear c9
 (first|rw [ae]|(simp only [i64_w,i32_w];rw [ae])|skip)
 obtain ⟨b6,bw,H⟩:=bd_ H
 have b7:=m_ H
 clear H
 obtain ⟨br,bs⟩:=an2_ a6 a7
 have b8:=bb3_ a5.out
 have b9:=bb3_ a8.out
 go_upto_if 15 with (first|((with_reducible refine gate_callee (f:=32) rfl ?_);refine goesL_ (some 14) rfl rfl Tryz.func32 kr_ rfl #[.slice ai a9.length aj,.slice an ab.length ao] rfl tq_0 ?_;(with_reducible refine (laws_eqIntS.calls k _ _ a9 _ _ ab b6 _ ?side1 ?side2 ?side3 ?side4 bw.out).mono ?_);(case side1=>exact tq_4);(case side2=>exact b1.out);(case side3=>exact tq_97);(case side4=>exact b3.out);rintro e w' ⟨rfl,⟨nd,rfl⟩⟩;refine ⟨_,rfl,?_⟩))
 (try simp only [Act.put,List.setIfInBounds_toArray,List.set_cons_zero,List.set_cons_succ])
 (try clear b8)
 (try clear b9)
 (try clear b8)
 (try clear b9)
 have H:=b7.out
 clear b7
 by_cases be:b6=true
 rotate_left
 ·replace be:=Bool.eq_false_iff.mpr be
  subst be
  rw [if_neg nf_] at H
  obtain rfl:=oi_ H
  go_wp2
  go_ret
  exact ⟨tq_1,th_⟩
 subst be
 rw [if_pos rfl] at H
 obtain ⟨ba,bx,H⟩:=bd_ H
 have bb:=m_ H
 clear H
 obtain ⟨af,ag⟩:=an2_ a6 a7
 have bc:=bb3_ a5.out
 have bd:=bb3_ a8.out
 go_upto_if 21 with (first|((with_reducible refine gate_callee (f:=33) rfl ?_);refine goesL_ (some 20) rfl rfl Tryz.func33 kr_ rfl #[.slice ak aa.length al,.slice ap ac.length aq] rfl tq_0 ?_;(with_reducible refine (laws_eqInodeS.calls k _ _ aa _ _ ac ba _ ?side1 ?side2 ?side3 ?side4 bx.out).mono ?_);(case side1=>exact tq_104);(case side2=>exact b2.out);(case side3=>repeat (first|exact (Kd.C_below b4.out th_)|(with_reducible refine Kd.C_alloc ?_ _)|(with_reducible refine Kd.C_drewN ?_ _)|(with_reducible refine Kd.C_drew ?_)));(case side4=>exact b5.out);rintro e bz ⟨rfl,hb⟩;refine ⟨_,rfl,?_⟩;have z_:=bw2_ (kb_ a5) (kb_ a8) th_ hb;clear a5 a8 HB;obtain ⟨a5,a8,HB⟩:=z_;(try clear hb)))
 (try simp only [Act.put,List.setIfInBounds_toArray,List.set_cons_zero,List.set_cons_succ])
 (try clear af ag)
 (try clear bc)
 (try clear bd)
 (try clear bc)
 (try clear bd)
 have H:=bb.out
 clear bb
 by_cases bf:ba=true
 ·subst bf
  rw [if_pos rfl] at H
  obtain rfl:=oi_ H
  go_wp2
  go_ret
  exact ⟨tq_1,th_⟩
 replace bf:=Bool.eq_false_iff.mpr bf
 subst bf
 rw [if_neg nf_] at H
 obtain rfl:=oi_ H
 go_wp2
 go_ret
 exact ⟨tq_1,th_⟩

def laws_eqCell.f (a5:Int) (a6:ByteArray) (a7:Bool) (a8:Int) (a9:ByteArray) (aa:Bool):Option (Bool):=if a5=a8 then (if a6.toList=a9.toList then (if (a7 != aa)=true then (some false) else (some true)) else (some false)) else (some false)
theorem laws_eqCell.calls (ai:Int) (aj:ByteArray) (a5:Bool) (ak:Int) (al:ByteArray) (a6:Bool) (r:Bool) (w:World) (h:laws_eqCell.f ai aj a5 ak al a6=some r) :
  Calls Tryz.prog 67 #[.agg #[.int .i64 ai,.string aj,.bool a5],.agg #[.int .i64 ak,.string al,.bool a6]] w fun e w'=>e=.returned (.bool r)∧Below w.heap.size w w':=by
 have hu78:=Tryz.underlying78
 have HB:=m_ (Below.refl w.heap.size w)
 unfold laws_eqCell.f at h
 have H:=h
 clear h
 have az:=m_ H
 clear H
 go_enter Tryz.func67,Tryz.ntmps67
 go_upto_if 9 with (first|((with_reducible refine gate_dst (N:=2) rfl ?_);refine be_ 2 (cs:=#[.int .i64 ai,.string aj,.bool a5]) 78 ?_;intro b0 hg w4 hbox hb;have z_:=bx0_ th_ hb hbox hg;clear HB;obtain ⟨HB,ac,b1,b2⟩:=z_;clear hb hbox hg)|((with_reducible refine gate_dst (N:=3) rfl ?_);refine be_ 3 (cs:=#[.int .i64 ak,.string al,.bool a6]) 78 ?_;intro b3 hg w5 hbox hb;have z_:=bx1_ (kb_ ac) th_ hb hbox hg;clear ac HB;obtain ⟨ac,HB,af,b4,b5,a7,a8⟩:=z_;clear hb hbox hg;obtain ⟨b9,ba⟩:=an2_ a7 a8;have b6:=bb3_ ac.out;have b7:=bb3_ af.out))
 (try simp only [Act.put,List.setIfInBounds_toArray,List.set_cons_zero,List.set_cons_succ])
 (try clear b6)
 (try clear b7)
 (try clear b6)
 (try clear b7)
 have H:=az.out
 clear az
 by_cases c9:ai=ak
 rotate_left
 ·rw [if_neg c9] at H
  have ag:=qc_ c9
  have ay:=qd_ c9
  (first|rw [ag]|(simp only [i64_w,i32_w];rw [ag])|skip)
  obtain rfl:=oi_ H
  go_wp2
  go_ret
  exact ⟨tq_1,th_⟩
 rw [if_pos c9] at H
 have ag:=qa_ c9
 have ay:=qb_ c9
 clear c9
 (first|rw [ag]|(simp only [i64_w,i32_w];rw [ag])|skip)
 have an:=m_ H
 clear H
 obtain ⟨a9,aa⟩:=an2_ a7 a8
 have ao:=bb3_ ac.out
 have ap:=bb3_ af.out
 go_upto_if 14 with (fail)
 (try clear a9 aa)
 (try clear ao)
 (try clear ap)
 (try clear ao)
 (try clear ap)
 have H:=an.out
 clear an
 by_cases am:aj.toList=al.toList
 rotate_left
 ·rw [if_neg am] at H
  have ae:=qc_ am
  have aq:=qd_ am
  (first|rw [ae]|(simp only [i64_w,i32_w];rw [ae])|skip)
  obtain rfl:=oi_ H
  go_wp2
  go_ret
  exact ⟨tq_1,th_⟩
 rw [if_pos am] at H
 have ae:=qa_ am
 have aq:=qb_ am
 clear am
 (first|rw [ae]|(simp only [i64_w,i32_w];rw [ae])|skip)
 have ar:=m_ H
 clear H
 obtain ⟨a9,aa⟩:=an2_ a7 a8
 have au:=bb3_ ac.out
 have av:=bb3_ af.out
 go_upto_if 19 with (fail)
 (try clear a9 aa)
 (try clear au)
 (try clear av)
 (try clear au)
 (try clear av)
 have H:=ar.out
 clear ar
 by_cases ah:(a5 != a6)=true
 rotate_left
 ·rw [if_neg ah] at H
  have ab:(a5 != a6)=false:=by simpa using ah
  (try (have aw:decide (a5=a6)=true:=by simpa using ah))
  (try (have ax:(a5 == a6)=true:=by simpa using ah))
  clear ah
  (first|rw [ab]|(simp only [i64_w,i32_w];rw [ab])|rw [show (!(a5 == a6))=false from ab]|skip)
  obtain rfl:=oi_ H
  go_wp2
  go_ret
  exact ⟨tq_1,th_⟩
 rw [if_pos ah] at H
 have ab:(a5 != a6)=true:=ah
 (try (have aw:decide (a5=a6)=false:=by simpa using ah))
 (try (have ax:(a5 == a6)=false:=by simpa using ah))
 (try (have b8:¬ (a5=a6):=by simpa using ah))
 clear ah
 (first|rw [ab]|(simp only [i64_w,i32_w];rw [ab])|rw [show (!(a5 == a6))=true from ab]|skip)
 obtain rfl:=oi_ H
 go_wp2
 go_ret
 exact ⟨tq_1,th_⟩

def laws_eqCellS.l0:Nat→List (S78)→List (S78)→Int→Option (Bool)
 | 0,_,_,_=>none
 | k+1,x0,x1,x5=>if x5 < (x0.length:Int) then (if 0≤x5 then (if x5 < (x1.length:Int) then ((laws_eqCell.f ((rd_T78 x0 x5).f0) ((rd_T78 x0 x5).f1) ((rd_T78 x0 x5).f2) ((rd_T78 x1 x5).f0) ((rd_T78 x1 x5).f1) ((rd_T78 x1 x5).f2)).bind fun a5=>(if a5=true then (laws_eqCellS.l0 k x0 x1 (wrap64 (x5+1))) else (some false))) else (none)) else (none)) else (some true)
def laws_eqCellS.f (k:Nat) (l0:List (S78)) (l1:List (S78)):Option (Bool):=if (l0.length:Int)=(l1.length:Int) then (laws_eqCellS.l0 k l0 l1 0) else (some false)
def laws_eqCellS.T6:Bool × List (List Nat × List Nat):=(true,[([],[]),([],[]),([0,1],[0,1]),([2],[2]),([],[]),([],[]),([4,5],[4,5]),([6],[6]),([3,7],[3,7]),([8],[8])])
def laws_eqCellS.B6:List Nat:=[0,0,3,7,0,0,48,112,255,511]
theorem laws_eqCellS.tab6:rtab .any (opsOf Tryz.f34 6)=laws_eqCellS.T6:=by kernel_rfl
theorem laws_eqCellS.bits6:waitsOk laws_eqCellS.T6.2 laws_eqCellS.B6=true:=by kernel_rfl
theorem laws_eqCellS.calls (k:Nat) (A0:Option Addr) (c0:Nat) (l0:List (S78)) (A1:Option Addr) (c1:Nat) (l1:List (S78)) (r:Bool) (w:World) (hr0:Kd.C k78 w A0 l0.length l0) (hc0:l0.length≤c0) (hr1:Kd.C k78 w A1 l1.length l1) (hc1:l1.length≤c1) (h:laws_eqCellS.f k l0 l1=some r) :
  Calls Tryz.prog 34 #[.slice A0 l0.length c0,.slice A1 l1.length c1] w fun e w'=>e=.returned (.bool r)∧Below w.heap.size w w':=by
 have hu78:=Tryz.underlying78
 have HR0:=m_ hr0
 have b3:=m_ hc0
 clear hr0 hc0
 have b0:=m_ hr1
 have b4:=m_ hc1
 clear hr1 hc1
 have HB:=m_ (Below.refl w.heap.size w)
 unfold laws_eqCellS.f at h
 have H:=h
 clear h
 by_cases c3:(l0.length:Int)=(l1.length:Int)
 rotate_left
 ·rw [if_neg c3] at H
  have ap:=qc_ c3
  have aq:=qd_ c3
  have ar:(l0.length == l1.length)=false:=by first|simpa using c3|(simp at c3 ⊢;omega)
  obtain rfl:=oi_ H
  go_enter Tryz.func34,Tryz.ntmps34
  go_wp2
  go_ret
  exact ⟨tq_1,th_⟩
 rw [if_pos c3] at H
 have ap:=qa_ c3
 have aq:=qb_ c3
 have ar:(l0.length == l1.length)=true:=by first|simpa using c3|(simp at c3 ⊢;omega)
 clear c3
 have H':=m_ H
 clear H
 go_enter Tryz.func34,Tryz.ntmps34
 go_wp2
 go_loopg [5] k (fun kq v5 w'=>∃ (a5:Int),v5=.int .i64 a5∧Aside0 (laws_eqCellS.l0 kq l0 l1 a5=some r)∧Aside0 (kq≤k)∧Aside0 (Below w.heap.size w w'))
 case atStart=>exact ⟨(0),tq_3,H',⟨Nat.le_refl _⟩,⟨th_⟩⟩
 case round =>
 clear H'
 try clear c1;try clear p2;try clear c3;try clear ap;try clear aq;try clear ar
 obtain ⟨a5,rfl,HA,HK1,HB⟩:=hrel
 cases gk with
 | zero=>exact absurd HA.out (by simp [laws_eqCellS.l0])
 | succ k1 =>
 have H:=HA.out
 clear HA
 simp only [laws_eqCellS.l0] at H
 by_cases c4:a5 < (l0.length:Int)
 rotate_left
 ·rw [if_neg c4] at H
  have aw:=df_ c4
  clear c4
  obtain rfl:=oi_ H
  go_wp2
  go_ret
  exact ⟨tq_1,th_⟩
 rw [if_pos c4] at H
 have aw:=de_ c4
 clear c4
 obtain ⟨c5,H⟩:=fc_ H
 have b1:=de_ c5
 clear c5
 obtain ⟨c6,H⟩:=fc_ H
 have b2:=de_ c6
 clear c6
 obtain ⟨au,A7,H⟩:=bd_ H
 have az:=m_ H
 clear H
 try go_wp2
 have n0_:=m_ (below_drew1 HB.out)
 clear HB
 have HB:=n0_
 clear n0_
 have al:0≤(a5:Int):=od_ tq_2
 have am:a5 < (l0.length:Int):=od_ tq_2
 obtain ⟨aj,ax,a6,a7,a8⟩:=at_T78 HR0.out a5 al am
 have ac:=a8
 have ae:=a7
 have af:=a6
 cases ax
 replace a6:=hx_ HB.out a6
 replace a7:=hx_ HB.out a7
 replace a8:=hx_ HB.out a8
 replace al:=eq_true al
 replace am:=eq_true am
 have an:0≤(a5:Int):=od_ tq_2
 have ao:a5 < (l1.length:Int):=od_ tq_2
 obtain ⟨ak,ay,a9,aa,ab⟩:=at_T78 b0.out a5 an ao
 have ag:=ab
 have ah:=aa
 have ai:=a9
 cases ay
 replace a9:=hx_ HB.out a9
 replace aa:=hx_ HB.out aa
 replace ab:=hx_ HB.out ab
 replace an:=eq_true an
 replace ao:=eq_true ao
 refine start_ (n:=10) (S:=fun w'=>w'.cell? (aj.add ((a5).toNat * 3))=some (.int .i64 ((rd_T78 l0 a5).f0))∧w'.cell? ⟨(aj.add ((a5).toNat * 3)).block,(aj.add ((a5).toNat * 3)).off+1,none⟩=some (.string ((rd_T78 l0 a5).f1))∧w'.cell? ⟨(aj.add ((a5).toNat * 3)).block,(aj.add ((a5).toNat * 3)).off+2,none⟩=some (.bool ((rd_T78 l0 a5).f2))∧w'.cell? (ak.add ((a5).toNat * 3))=some (.int .i64 ((rd_T78 l1 a5).f0))∧w'.cell? ⟨(ak.add ((a5).toNat * 3)).block,(ak.add ((a5).toNat * 3)).off+1,none⟩=some (.string ((rd_T78 l1 a5).f1))∧w'.cell? ⟨(ak.add ((a5).toNat * 3)).block,(ak.add ((a5).toNat * 3)).off+2,none⟩=some (.bool ((rd_T78 l1 a5).f2))) (ds:=[]) bq_131 kr_ rfl rfl ⟨((HB.out.cell (World.block_lt_of_cell? w _ af)).trans af),((HB.out.cell (World.block_lt_of_cell? w _ ae)).trans ae),((HB.out.cell (World.block_lt_of_cell? w _ ac)).trans ac),((HB.out.cell (World.block_lt_of_cell? w _ ai)).trans ai),((HB.out.cell (World.block_lt_of_cell? w _ ah)).trans ah),((HB.out.cell (World.block_lt_of_cell? w _ ag)).trans ag)⟩ (fun hHeld=>?_);refine with_tabW laws_eqCellS.tab6 laws_eqCellS.bits6 (fun HT_ HW_=>?_)
 generalize wr.drew=w9 at HB a6 a7 a8 a9 aa ab hHeld ⊢
 refine yr_ 0 17 bq_132 HT_ ?_
 refine yr_ 1 18 bq_133 HT_ ?_
 refine yr_ 2 19 bq_134 HT_ ?_
 refine yr_ 4 21 bq_135 HT_ ?_
 refine yr_ 5 22 bq_136 HT_ ?_
 refine yr_ 6 23 bq_137 HT_ ?_
 refine tr_ 3 20 bq_138 HT_ HW_ hHeld ?_
 refine tr_ 7 24 bq_139 HT_ HW_ hHeld ?_
 refine one_ (i:=8) (N:=some 25) bq_140 rfl rfl (one_of HT_.out kr_) (by decide) (fun K hK=>?_)
 refine goes_ Tryz.func67 kr_ rfl #[.agg #[.int .i64 ((rd_T78 l0 a5).f0),.string ((rd_T78 l0 a5).f1),.bool ((rd_T78 l0 a5).f2)],.agg #[.int .i64 ((rd_T78 l1 a5).f0),.string ((rd_T78 l1 a5).f1),.bool ((rd_T78 l1 a5).f2)]] (by rfl) rfl rfl tq_0 ?_
 with_reducible refine (laws_eqCell.calls ((rd_T78 l0 a5).f0) ((rd_T78 l0 a5).f1) ((rd_T78 l0 a5).f2) ((rd_T78 l1 a5).f0) ((rd_T78 l1 a5).f1) ((rd_T78 l1 a5).f2) au _ A7.out).mono ?_
 rintro e b5 ⟨rfl,hb⟩
 refine ⟨_,rfl,?_⟩
 have n0_:=m_ (below_step th_ hb)
 clear HB
 have HB:=n0_
 clear n0_
 (try clear hb)
 refine hK.out _ _ ⟨((HB.out.cell (World.block_lt_of_cell? w _ af)).trans af),((HB.out.cell (World.block_lt_of_cell? w _ ae)).trans ae),((HB.out.cell (World.block_lt_of_cell? w _ ac)).trans ac),((HB.out.cell (World.block_lt_of_cell? w _ ai)).trans ai),((HB.out.cell (World.block_lt_of_cell? w _ ah)).trans ah),((HB.out.cell (World.block_lt_of_cell? w _ ag)).trans ag)⟩ (fun hHeld=>?_)
 clear hK K
 refine nm_ (some 25) ?_
 refine yr_ 9 26 bq_141 HT_ ?_
 refine done_ (done_of HT_.out kr_) ?_
 go_upto_if 26 with (fail)
 (try clear a6 a7 a8)
 (try clear a9 aa ab)
 have H:=az.out
 clear az
 by_cases av:au=true
 rotate_left
 ·replace av:=Bool.eq_false_iff.mpr av
  subst av
  rw [if_neg nf_] at H
  obtain rfl:=oi_ H
  go_wp2
  go_ret
  exact ⟨tq_1,th_⟩
 subst av
 rw [if_pos rfl] at H
 have H':=m_ H
 clear H
 go_wp2
 go_roundg k1
 case measure=>have:=HK1.out;omega
 case rel=>exact ⟨(wrap64 (a5+1)),tq_3,H',⟨tq_14⟩,⟨th_⟩⟩

def laws_eqMemory.f (k:Nat) (a5:ByteArray) (a6:List (S78)) (a7:ByteArray) (a8:List (S78)):Option (Bool):=if a5.toList=a7.toList then ((laws_eqCellS.f k a6 a8).bind fun a9=>(if a9=true then (some true) else (some false))) else (some false)
theorem laws_eqMemory.calls (k:Nat) (ac:ByteArray) (ae:Option Addr) (af:Nat) (a8:List (S78)) (ag:ByteArray) (ah:Option Addr) (ai:Nat) (a9:List (S78)) (r:Bool) (w:World) (aj:Kd.C k78 w ae a8.length a8) (ak:a8.length≤af) (al:Kd.C k78 w ah a9.length a9) (am:a9.length≤ai) (h:laws_eqMemory.f k ac a8 ag a9=some r) :
  Calls Tryz.prog 10 #[.agg #[.string ac,.slice ae a8.length af],.agg #[.string ag,.slice ah a9.length ai]] w fun e w'=>e=.returned (.bool r)∧Below w.heap.size w w':=by
 have hu36:=Tryz.underlying36
 have HR0_1:=m_ aj
 have an:=m_ ak
 clear aj ak
 have HR1_1:=m_ al
 have ao:=m_ am
 clear al am
 have HB:=m_ (Below.refl w.heap.size w)
 unfold laws_eqMemory.f at h
 have H:=h
 clear h
 have ax:=m_ H
 clear H
 go_enter Tryz.func10,Tryz.ntmps10
 go_upto_if 9 with (first|((with_reducible refine gate_dst (N:=2) rfl ?_);refine be_ 2 (cs:=#[.string ac,.slice ae a8.length af]) 36 ?_;intro ay hg w4 hbox hb;have z_:=bx0_ th_ hb hbox hg;clear HB;obtain ⟨HB,a5,az,b0⟩:=z_;clear hb hbox hg)|((with_reducible refine gate_dst (N:=3) rfl ?_);refine be_ 3 (cs:=#[.string ag,.slice ah a9.length ai]) 36 ?_;intro b1 hg w5 hbox hb;have z_:=bx1_ (kb_ a5) th_ hb hbox hg;clear a5 HB;obtain ⟨a5,HB,aa,b2,b3,a6,a7⟩:=z_;clear hb hbox hg;obtain ⟨b8,b9⟩:=an2_ a6 a7;have b4:=bb2_ a5.out;have b5:=bb2_ aa.out))
 (try simp only [Act.put,List.setIfInBounds_toArray,List.set_cons_zero,List.set_cons_succ])
 (try clear b4)
 (try clear b5)
 (try clear b4)
 (try clear b5)
 have H:=ax.out
 clear ax
 by_cases c9:ac.toList=ag.toList
 rotate_left
 ·rw [if_neg c9] at H
  have ab:=qc_ c9
  have aw:=qd_ c9
  (first|rw [ab]|(simp only [i64_w,i32_w];rw [ab])|skip)
  obtain rfl:=oi_ H
  go_wp2
  go_ret
  exact ⟨tq_1,th_⟩
 rw [if_pos c9] at H
 have ab:=qa_ c9
 have aw:=qb_ c9
 clear c9
 (first|rw [ab]|(simp only [i64_w,i32_w];rw [ab])|skip)
 obtain ⟨ap,ba,H⟩:=bd_ H
 have aq:=m_ H
 clear H
 obtain ⟨b6,b7⟩:=an2_ a6 a7
 have ar:=bb2_ a5.out
 have au:=bb2_ aa.out
 go_upto_if 15 with (first|((with_reducible refine gate_callee (f:=34) rfl ?_);refine goesL_ (some 14) rfl rfl Tryz.func34 kr_ rfl #[.slice ae a8.length af,.slice ah a9.length ai] rfl tq_0 ?_;(with_reducible refine (laws_eqCellS.calls k _ _ a8 _ _ a9 ap _ ?side1 ?side2 ?side3 ?side4 ba.out).mono ?_);(case side1=>exact tq_4);(case side2=>exact an.out);(case side3=>exact tq_97);(case side4=>exact ao.out);rintro e bb ⟨rfl,hb⟩;refine ⟨_,rfl,?_⟩;have z_:=bw2_ (kb_ a5) (kb_ aa) th_ hb;clear a5 aa HB;obtain ⟨a5,aa,HB⟩:=z_;(try clear hb)))
 (try simp only [Act.put,List.setIfInBounds_toArray,List.set_cons_zero,List.set_cons_succ])
 (try clear ar)
 (try clear au)
 (try clear ar)
 (try clear au)
 have H:=aq.out
 clear aq
 by_cases av:ap=true
 ·subst av
  rw [if_pos rfl] at H
  obtain rfl:=oi_ H
  go_wp2
  go_ret
  exact ⟨tq_1,th_⟩
 replace av:=Bool.eq_false_iff.mpr av
 subst av
 rw [if_neg nf_] at H
 obtain rfl:=oi_ H
 go_wp2
 go_ret
 exact ⟨tq_1,th_⟩

def laws_markText.l0:Nat→Int→ByteArray→Option (ByteArray)
 | 0,_,_=>none
 | k+1,x0,x3=>if x0 > 0 then ((some (([(wrap64 (48+(Int.tmod x0 10))) % 256]:List Int):List Int)).bind fun a5=>(if (strOfNums a5).size+x3.size≤9223372036854775807 then (laws_markText.l0 k (wrap64 (Int.tdiv x0 10)) ((strOfNums a5)++x3)) else (none))) else (if 1+x3.size≤9223372036854775807 then (some ((⟨#[109]⟩:ByteArray)++x3)) else (none))
def laws_markText.f (k:Nat) (a0:Int):Option (ByteArray):=if a0≤0 then (some (⟨#[109,48]⟩:ByteArray)) else (laws_markText.l0 k a0 (⟨#[]⟩:ByteArray))
theorem laws_markText.calls (k:Nat) (a0:Int) (r:ByteArray) (w:World) (h:laws_markText.f k a0=some r) :
  Calls Tryz.prog 68 #[.int .i64 a0] w fun e w'=>e=.returned (.string r)∧Below w.heap.size w w':=by
 have HB:=m_ (Below.refl w.heap.size w)
 unfold laws_markText.f at h
 have H:=h
 clear h
 by_cases c2:a0≤0
 ·rw [if_pos c2] at H
  have a8:=de_ c2
  clear c2
  obtain rfl:=oi_ H
  go_enter Tryz.func68,Tryz.ntmps68
  go_wp2
  go_ret
  exact ⟨tq_1,th_⟩
 rw [if_neg c2] at H
 have a8:=df_ c2
 clear c2
 have H':=m_ H
 clear H
 go_enter Tryz.func68,Tryz.ntmps68
 go_wp2
 go_loopg [0,3] k (fun kq v0 v3 w'=>∃ (a5:Int) (a6:ByteArray),v0=.int .i64 a5∧v3=.string a6∧Aside0 (laws_markText.l0 kq a5 a6=some r)∧Aside0 (kq≤k)∧Aside0 (Below w.heap.size w w'))
 case atStart=>exact ⟨(a0),((⟨#[]⟩:ByteArray)),tq_3,tq_3,H',⟨Nat.le_refl _⟩,⟨th_⟩⟩
 case round =>
 clear H'
 try clear c2;try clear a8;try clear p2
 obtain ⟨a5,a6,rfl,rfl,HA,HK1,HB⟩:=hrel
 cases gk with
 | zero=>exact absurd HA.out (by simp [laws_markText.l0])
 | succ k1 =>
 have H:=HA.out
 clear HA
 simp only [laws_markText.l0] at H
 by_cases c3:a5 > 0
 rotate_left
 ·rw [if_neg c3] at H
  have ab:=df_ c3
  clear c3
  obtain ⟨c8,H⟩:=fc_ H
  have ac:=eq_true c8
  have ae:=de_ c8
  try have af:(9223372036854775807 < 1+a6.size)=False:=eq_false (Nat.not_lt.2 c8)
  obtain rfl:=oi_ H
  go_wp2
  go_ret
  exact ⟨tq_1,th_⟩
 rw [if_pos c3] at H
 have ab:=de_ c3
 clear c3
 obtain ⟨a9,a7,H⟩:=bs_ H
 obtain ⟨c4,H⟩:=fc_ H
 have ag:=eq_true c4
 have ah:=de_ c4
 try have ai:(9223372036854775807 < (strOfNums a9).size+a6.size)=False:=eq_false (Nat.not_lt.2 c4)
 have H':=m_ H
 clear H
 go_wp2_with (first|((with_reducible refine gate_dst (N:=12) rfl ?_);refine Kd.R_lit (Kd.int .u8) _ 5 ?hg (N:=12) ?hd (xs:=([(wrap64 (48+(Int.tmod a5 10))) % 256]:List Int)) (inner:=[.int .u8 ((wrap64 (48+(Int.tmod a5 10))) % 256)]) (ok:=fun _=>True) (okp:=fun _=>True) ?hr ?hp (fun _ hk=>hk) trivial (Below.refl _ _) (Nat.le_refl _) (by simp) ?_;(case hd=>rfl);(case hg=>rfl);(case hr=>first|(go_simp;done)|(go_simp;rfl));(case hp=>exact (Reps.one (show Kd.M (Kd.int .u8) _ _ _ ((wrap64 (48+(Int.tmod a5 10))) % 256) [.int .u8 ((wrap64 (48+(Int.tmod a5 10))) % 256)] from rfl) (Reps.none _ _)));intro v685 w5 ho6 hb hg_ hnew_;clear hg_ hnew_;(first|rw [← a7.out] at ho6|(simp only [Int.reduceToNat] at ho6;rw [← a7.out] at ho6));have z_:=p_ (Kd.R_lower ho6 (below_size th_)) <| a_ (below_step th_ hb);clear HB;obtain ⟨aa,HB⟩:=z_;clear hb ho6;have hcv7:=own_string (P:=Tryz.prog) Tryz.underlying101 Tryz.underlying5 Tryz.underlying9 (Kd.own_of_R aa.out)))
 go_roundg k1
 case measure=>have:=HK1.out;omega
 case rel=>exact ⟨(wrap64 (Int.tdiv a5 10)),((strOfNums a9)++a6),tq_3,tq_3,H',⟨tq_14⟩,⟨th_⟩⟩

def laws_markCellS.l0:Nat→List (S78)→Int→Int→Option (Int × (List (S78)))
 | 0,_,_,_=>none
 | k+1,x0,x1,x5=>if x5 < (x0.length:Int) then (if 0≤x5 then ((some (x0.set (x5:Int).toNat (⟨x1,(rd_T78 x0 x5).f1,(rd_T78 x0 x5).f2⟩:S78):List (S78))).bind fun a5=>((laws_markText.f k (wrap64 (x1+1))).bind fun a7=>((some (a5.set (x5:Int).toNat (⟨(rd_T78 a5 x5).f0,a7,(rd_T78 a5 x5).f2⟩:S78):List (S78))).bind fun a6=>(laws_markCellS.l0 k (a6.set (x5:Int).toNat (⟨(rd_T78 a6 x5).f0,(rd_T78 a6 x5).f1,((Int.tmod (wrap64 ((wrap64 (x1+1))+1)) 3) == 0)⟩:S78)) (wrap64 ((wrap64 ((wrap64 (x1+1))+1))+1)) (wrap64 (x5+1)))))) else (none)) else (some (x1,x0))
def laws_markCellS.f (k:Nat) (l0:List (S78)) (a1:Int):Option (Int × (List (S78))):=laws_markCellS.l0 k l0 a1 0
theorem laws_markCellS.calls (k:Nat) (P0_:Nat→Prop) (u9000_:Value) (l0:List (S78)) (a1:Int) (r1:Int) (r2:List (S78)) (w0 w:World) (hB:Below w0.heap.size w0 w) (ho0:Kd.R k78 78 w w0.heap.size P0_ u9000_ l0) (h:laws_markCellS.f k l0 a1=some (r1,r2)) :
  Calls Tryz.prog 35 #[u9000_,.int .i64 a1] w fun e w'=>e=.returned (.int .i64 r1)∧Kd.R k78 78 w' w0.heap.size (fun k_=>(P0_ k_∨w.heap.size≤k_)) u9000_ r2∧Below w0.heap.size w0 w'∧Kept w w' (fun k_=>P0_ k_):=by
 have cp:=m_ (show Kd.R k78 78 w w0.heap.size (fun k_=>(P0_ k_∨w.heap.size≤k_)) u9000_ l0 from Kd.R_mono ho0 (fun k_ hk=>(.inl hk)))
 have HK:=m_ (Kept.refl w (fun k_=>P0_ k_))
 have HW0:=m_ hB.size
 have HB:=m_ hB
 clear hB
 unfold laws_markCellS.f at h
 have H:=h
 clear h
 have H':=m_ H
 clear H
 go_enter Tryz.func35,Tryz.ntmps35
 go_wp2
 go_loopg [1,5] k (fun kq v1 v5 w'=>∃ (a6:List (S78)) (a7:Int) (a5:Int),v1=.int .i64 a7∧v5=.int .i64 a5∧Aside0 (laws_markCellS.l0 kq a6 a7 a5=some (r1,r2))∧Aside0 (kq≤k)∧Aside0 (Kd.R k78 78 w' w0.heap.size (fun k_=>(P0_ k_∨w.heap.size≤k_)) u9000_ a6)∧Aside0 (Kept w w' (fun k_=>P0_ k_))∧Aside0 (Below w0.heap.size w0 w'))
 case atStart=>exact ⟨(l0),(a1),(0),tq_3,tq_3,H',⟨Nat.le_refl _⟩,⟨(raR_ cp)⟩,⟨tq_6⟩,⟨th_⟩⟩
 case round =>
 clear H'
 try clear p2
 obtain ⟨a6,a7,a5,rfl,rfl,HA,HK1,HO_0,HK,HB⟩:=hrel
 cases gk with
 | zero=>exact absurd HA.out (by simp [laws_markCellS.l0])
 | succ k1 =>
 have H:=HA.out
 clear HA
 simp only [laws_markCellS.l0] at H
 have bw:=m_ H
 clear H
 obtain ⟨cy,b5,cq⟩:=Kd.R_slice HO_0.out
 subst cq
 go_upto_if 9 with (fail)
 have H:=bw.out
 clear bw
 by_cases c5:a5 < (a6.length:Int)
 rotate_left
 ·rw [if_neg c5] at H
  have af:=df_ c5
  clear c5
  (first|rw [af]|(simp only [i64_w,i32_w];rw [af])|skip)
  simp only [Option.some.injEq,Prod.mk.injEq] at H
  obtain ⟨rfl,rfl⟩:=H
  go_wp2
  go_ret
  exact ⟨tq_1,(raR_ HO_0),th_,tq_6⟩
 rw [if_pos c5] at H
 have af:=de_ c5
 clear c5
 (first|rw [af]|(simp only [i64_w,i32_w];rw [af])|skip)
 obtain ⟨c6,H⟩:=fc_ H
 have cr:=de_ c6
 clear c6
 obtain ⟨aa,b6,H⟩:=bs_ H
 obtain ⟨ag,A8,H⟩:=bd_ H
 obtain ⟨a9,b7,H⟩:=bs_ H
 obtain ⟨ay,ah⟩:∃ y_:List (S78),y_=(a9.set (a5:Int).toNat (⟨(rd_T78 a9 a5).f0,(rd_T78 a9 a5).f1,((Int.tmod (wrap64 ((wrap64 (a7+1))+1)) 3) == 0)⟩:S78)):=⟨_,rfl⟩
 replace H:(laws_markCellS.l0 k1 ay (wrap64 ((wrap64 ((wrap64 (a7+1))+1))+1)) (wrap64 (a5+1)))=some (r1,r2):=rh_ ah H
 have b8:=m_ ah
 clear ah
 have H':=m_ H
 clear H
 have p7:0≤(a5:Int):=od_ tq_2
 have q7:(a5:Int) < ((a6.length:Int):Int):=od_ tq_2
 obtain ⟨a8,cz,bx,bz,ct,d0,ca⟩:=Kd.R_form HO_0.out (by omega)
 (first|cases bx|(injection bx with ea_ en_ ec_;(first|subst ea_|(injection ea_ with ea_;subst ea_));subst ec_;clear en_))
 have bh:=m_ bz
 have d1:=m_ ca
 clear bz ct ca
 have HMgo7:=m_ (show (P0_ a8∨w.heap.size≤a8) from (HO_0.out.1 _ rfl))
 obtain ⟨d2,bi,cb,al,am⟩:=Kd.R_elem HO_0.out z78 (a5:Int) p7 q7
 obtain rfl:=k78_openM cb
 have cc:wr.cell? ⟨a8,(a5:Int).toNat * 3,none⟩=some (.int .i64 ((rd_T78 a6 a5).f0)):=al 0 _ rfl
 have cd:wr.cell? ⟨a8,(a5:Int).toNat * 3+1,none⟩=some (.string ((rd_T78 a6 a5).f1)):=al 1 _ rfl
 have ce:wr.cell? ⟨a8,(a5:Int).toNat * 3+2,none⟩=some (.bool ((rd_T78 a6 a5).f2)):=al 2 _ rfl
 have cf:wr.frozen? ⟨a8,(a5:Int).toNat * 3,none⟩=false:=am 0
 have cg:wr.frozen? ⟨a8,(a5:Int).toNat * 3+1,none⟩=false:=am 1
 have ch:wr.frozen? ⟨a8,(a5:Int).toNat * 3+2,none⟩=false:=am 2
 clear bi al am cb
 replace p7:=eq_true p7
 replace q7:=eq_true q7
 have b9:=m_ (show Kd.R k78 78 wr w0.heap.size (fun k_=>(P0_ k_∨w.heap.size≤k_)) (.slice (some ⟨a8,0,none⟩) a6.length b5) a6 from (raR_ HO_0))
 obtain ⟨cu,aq,ba,ai,ar⟩:=Kd.R_elem b9.out z78 (a5:Int) (od_ tq_2) (by have h_:(a5:Int) < ((a6.length:Int):Int):=od_ tq_2;first|exact h_|(have e_:=(Kd.R_reads' HO_0.out).1;omega)|simpa using h_)
 obtain rfl:=k78_openM ba
 have HP11:=Kd.R_seg b9.out (a5:Int) (od_ tq_2) (by have h_:(a5:Int) < ((a6.length:Int):Int):=od_ tq_2;first|exact h_|(have e_:=(Kd.R_reads' HO_0.out).1;omega)|simpa using h_) (seg:=[.int .i64 a7]) (j:=0) aq ai (show 1≤3 from by decide) (x':=(⟨a7,(rd_T78 a6 a5).f1,(rd_T78 a6 a5).f2⟩:S78)) (k78_mkM _ _ _ (⟨a7,(rd_T78 a6 a5).f1,(rd_T78 a6 a5).f2⟩:S78) ) (fun _ hk=>hk)
 have az:=ai 0 _ rfl
 (try simp only [show (k78).sz=3 from rfl,Nat.mul_one,Nat.add_zero] at az)
 have b0:=ar 0
 (try simp only [show (k78).sz=3 from rfl,Nat.mul_one,Nat.add_zero] at b0)
 clear aq ai ar ba
 go_wp2_with (first|((with_reducible refine gate_store (t:=3) (p:=16) rfl ?_);refine store_event (t:=3) (p:=16) (v:=?vo_w12) (w1:=(wr.setCell ⟨a8,(a5:Int).toNat * 3,none⟩ (.int .i64 a7))) ?hg ?ho ?hn ?hr ?_;(case ho=>rfl);(case hg=>rfl);(case hn=>rfl);(case hr=>first|(go_simp;done)|(go_simp;rfl));intro bj hw;have hg:wr.grownBy bj (some a8):=(by rw [hw];exact HP11.2);have hp_:Kd.R k78 78 bj w0.heap.size (fun k_=>(P0_ k_∨w.heap.size≤k_)) (.slice (some ⟨a8,0,none⟩) a6.length b5) aa:=(by rw [hw,b6.out];exact HP11.1);clear HP11;have z_:=p_ (hp_) <| p_ ((by rw [hw];exact below_set (HB.out) bh.out:Below w0.heap.size w0 bj)) <| a_ (Kept.of_grown (S:=(fun k_=>P0_ k_)) hg tq_6 (fun k_ e_=>(HO_0.out.1 k_ e_)));clear HO_0 HB HK;obtain ⟨HO_0,HB,HK⟩:=z_;clear hg hw hp_)|((with_reducible refine gate_callee (f:=68) rfl ?_);refine goesL_ (some 22) rfl rfl Tryz.func68 kr_ rfl #[.int .i64 (wrap64 (a7+1))] rfl tq_0 ?_;(with_reducible refine (laws_markText.calls k1 (wrap64 (a7+1)) ag _ A8.out).mono ?_);rintro e an ⟨rfl,hb⟩;refine ⟨_,rfl,?_⟩;have z_:=p_ (Kd.R_below (raR_ HO_0) hb) <| p_ (Kept.below (S:=(fun k_=>P0_ k_)) tq_6 hb) <| a_ (below_step th_ hb);clear HO_0 HK HB;obtain ⟨HO_0,HK,HB⟩:=z_;(try clear hb);(try clear hk);have p9:0≤(a5:Int):=od_ tq_2;have q9:(a5:Int) < ((a6.length:Int):Int):=od_ tq_2;obtain ⟨d3,bl,ci,ao,ap⟩:=Kd.R_elem HO_0.out z78 (a5:Int) p9 q9;obtain rfl:=k78_openM ci;have cj:an.cell? ⟨a8,(a5:Int).toNat * 3,none⟩=some (.int .i64 ((rd_T78 aa a5).f0)):=ao 0 _ rfl;have ck:an.cell? ⟨a8,(a5:Int).toNat * 3+1,none⟩=some (.string ((rd_T78 aa a5).f1)):=ao 1 _ rfl;have cl:an.cell? ⟨a8,(a5:Int).toNat * 3+2,none⟩=some (.bool ((rd_T78 aa a5).f2)):=ao 2 _ rfl;have cm:an.frozen? ⟨a8,(a5:Int).toNat * 3,none⟩=false:=ap 0;have cn:an.frozen? ⟨a8,(a5:Int).toNat * 3+1,none⟩=false:=ap 1;have co:an.frozen? ⟨a8,(a5:Int).toNat * 3+2,none⟩=false:=ap 2;clear bl ao ap ci;replace p9:=eq_true p9;replace q9:=eq_true q9;have bb:=m_ (show Kd.R k78 78 an w0.heap.size (fun k_=>(P0_ k_∨w.heap.size≤k_)) (.slice (some ⟨a8,0,none⟩) a6.length b5) aa from (raR_ HO_0));obtain ⟨cv,au,bc,aj,av⟩:=Kd.R_elem bb.out z78 (a5:Int) (od_ tq_2) (by have h_:(a5:Int) < ((a6.length:Int):Int):=od_ tq_2;first|exact h_|(have e_:=(Kd.R_reads' HO_0.out).1;omega)|simpa using h_);obtain rfl:=k78_openM bc;have HP14:=Kd.R_seg bb.out (a5:Int) (od_ tq_2) (by have h_:(a5:Int) < ((a6.length:Int):Int):=od_ tq_2;first|exact h_|(have e_:=(Kd.R_reads' HO_0.out).1;omega)|simpa using h_) (seg:=[.string ag]) (j:=1) au aj (show 2≤3 from by decide) (x':=(⟨(rd_T78 aa a5).f0,ag,(rd_T78 aa a5).f2⟩:S78)) (k78_mkM _ _ _ (⟨(rd_T78 aa a5).f0,ag,(rd_T78 aa a5).f2⟩:S78) ) (fun _ hk=>hk);have b1:=aj 1 _ rfl;(try simp only [show (k78).sz=3 from rfl,Nat.mul_one,Nat.add_zero] at b1);have b2:=av 1;(try simp only [show (k78).sz=3 from rfl,Nat.mul_one,Nat.add_zero] at b2);clear au aj av bc)|((with_reducible refine gate_store (t:=9) (p:=24) rfl ?_);refine store_event (t:=9) (p:=24) (v:=?vo_w15) (w1:=(an.setCell ⟨a8,(a5:Int).toNat * 3+1,none⟩ (.string ag))) ?hg ?ho ?hn ?hr ?_;(case ho=>rfl);(case hg=>rfl);(case hn=>rfl);(case hr=>first|(go_simp;done)|(go_simp;rfl));intro ae hw;have hg:an.grownBy ae (some a8):=(by rw [hw];exact HP14.2);have hp_:Kd.R k78 78 ae w0.heap.size (fun k_=>(P0_ k_∨w.heap.size≤k_)) (.slice (some ⟨a8,0,none⟩) a6.length b5) a9:=(by rw [hw,b7.out];exact HP14.1);clear HP14;have z_:=p_ (hp_) <| p_ ((by rw [hw];exact below_set (HB.out) bh.out:Below w0.heap.size w0 ae)) <| a_ (Kept.of_grown (S:=(fun k_=>P0_ k_)) hg tq_6 (fun k_ e_=>(HO_0.out.1 k_ e_)));clear HO_0 HB HK;obtain ⟨HO_0,HB,HK⟩:=z_;clear hg hw hp_;have bm:0≤(a5:Int):=od_ tq_2;have bn:(a5:Int) < ((a6.length:Int):Int):=od_ tq_2;obtain ⟨cw,bd,be,ab,ac⟩:=Kd.R_elem HO_0.out z78 (a5:Int) bm bn;obtain rfl:=k78_openM be;have bo:ae.cell? ⟨a8,(a5:Int).toNat * 3,none⟩=some (.int .i64 ((rd_T78 a9 a5).f0)):=ab 0 _ rfl;have bp:ae.cell? ⟨a8,(a5:Int).toNat * 3+1,none⟩=some (.string ((rd_T78 a9 a5).f1)):=ab 1 _ rfl;have bq:ae.cell? ⟨a8,(a5:Int).toNat * 3+2,none⟩=some (.bool ((rd_T78 a9 a5).f2)):=ab 2 _ rfl;have br:ae.frozen? ⟨a8,(a5:Int).toNat * 3,none⟩=false:=ac 0;have bs:ae.frozen? ⟨a8,(a5:Int).toNat * 3+1,none⟩=false:=ac 1;have bu:ae.frozen? ⟨a8,(a5:Int).toNat * 3+2,none⟩=false:=ac 2;clear bd ab ac be;replace bm:=eq_true bm;replace bn:=eq_true bn;have bf:=m_ (show Kd.R k78 78 ae w0.heap.size (fun k_=>(P0_ k_∨w.heap.size≤k_)) (.slice (some ⟨a8,0,none⟩) a6.length b5) a9 from (raR_ HO_0));obtain ⟨cx,aw,bg,ak,ax⟩:=Kd.R_elem bf.out z78 (a5:Int) (od_ tq_2) (by have h_:(a5:Int) < ((a6.length:Int):Int):=od_ tq_2;first|exact h_|(have e_:=(Kd.R_reads' HO_0.out).1;omega)|simpa using h_);obtain rfl:=k78_openM bg;have HP16:=Kd.R_seg bf.out (a5:Int) (od_ tq_2) (by have h_:(a5:Int) < ((a6.length:Int):Int):=od_ tq_2;first|exact h_|(have e_:=(Kd.R_reads' HO_0.out).1;omega)|simpa using h_) (seg:=[.bool ((Int.tmod (wrap64 ((wrap64 (a7+1))+1)) 3) == 0)]) (j:=2) aw ak (show 3≤3 from by decide) (x':=(⟨(rd_T78 a9 a5).f0,(rd_T78 a9 a5).f1,((Int.tmod (wrap64 ((wrap64 (a7+1))+1)) 3) == 0)⟩:S78)) (k78_mkM _ _ _ (⟨(rd_T78 a9 a5).f0,(rd_T78 a9 a5).f1,((Int.tmod (wrap64 ((wrap64 (a7+1))+1)) 3) == 0)⟩:S78) ) (fun _ hk=>hk);have b3:=ak 2 _ rfl;(try simp only [show (k78).sz=3 from rfl,Nat.mul_one,Nat.add_zero] at b3);have b4:=ax 2;(try simp only [show (k78).sz=3 from rfl,Nat.mul_one,Nat.add_zero] at b4);clear aw ak ax bg)|((with_reducible refine gate_store (t:=4) (p:=33) rfl ?_);refine store_event (t:=4) (p:=33) (v:=?vo_w17) (w1:=(ae.setCell ⟨a8,(a5:Int).toNat * 3+2,none⟩ (.bool ((Int.tmod (wrap64 ((wrap64 (a7+1))+1)) 3) == 0)))) ?hg ?ho ?hn ?hr ?_;(case ho=>rfl);(case hg=>rfl);(case hn=>rfl);(case hr=>first|(go_simp;done)|(go_simp;rfl));intro bv hw;have hg:ae.grownBy bv (some a8):=(by rw [hw];exact HP16.2);have hp_:Kd.R k78 78 bv w0.heap.size (fun k_=>(P0_ k_∨w.heap.size≤k_)) (.slice (some ⟨a8,0,none⟩) a6.length b5) ay:=(by rw [hw,b8.out];exact HP16.1);clear HP16;have z_:=p_ (hp_) <| p_ ((by rw [hw];exact below_set (HB.out) bh.out:Below w0.heap.size w0 bv)) <| a_ (Kept.of_grown (S:=(fun k_=>P0_ k_)) hg tq_6 (fun k_ e_=>(HO_0.out.1 k_ e_)));clear HO_0 HB HK;obtain ⟨HO_0,HB,HK⟩:=z_;clear hg hw hp_))
 go_roundg k1
 case measure=>have:=HK1.out;omega
 case rel=>exact ⟨(ay),(wrap64 ((wrap64 ((wrap64 (a7+1))+1))+1)),(wrap64 (a5+1)),tq_3,tq_3,H',⟨tq_14⟩,⟨(raR_ HO_0)⟩,⟨tq_6⟩,⟨th_⟩⟩

def laws_markMemory.f (k:Nat) (a7:ByteArray) (a6:List (S78)) (a1:Int):Option (Int × (List (S78))):=(laws_markCellS.f k a6 a1).bind fun a5=>(some (a5.1,a5.2))
theorem laws_markMemory.calls (k:Nat) (a8:ByteArray) (P0_1_:Nat→Prop) (u9000_:Value) (a5:List (S78)) (a1:Int) (r1:Int) (r2:List (S78)) (w0 w:World) (hB:Below w0.heap.size w0 w) (ho0_1:Kd.R k78 78 w w0.heap.size P0_1_ u9000_ a5) (h:laws_markMemory.f k a8 a5 a1=some (r1,r2)) :
  Calls Tryz.prog 11 #[.agg #[.string a8,u9000_],.int .i64 a1] w fun e w'=>e=.returned (.int .i64 r1)∧Kd.R k78 78 w' w0.heap.size (fun k_=>(P0_1_ k_∨w.heap.size≤k_)) u9000_ r2∧Below w0.heap.size w0 w'∧Kept w w' (fun k_=>P0_1_ k_):=by
 have hu36:=Tryz.underlying36
 have HO0_1:=m_ (show Kd.R k78 78 w w0.heap.size (fun k_=>(P0_1_ k_∨w.heap.size≤k_)) u9000_ a5 from Kd.R_mono ho0_1 (fun k_ hk=>(.inl hk)))
 have HK:=m_ (Kept.refl w (fun k_=>P0_1_ k_))
 have HW0:=m_ hB.size
 have HB:=m_ hB
 clear hB
 unfold laws_markMemory.f at h
 have H:=h
 clear h
 obtain ⟨⟨ac,ae⟩,A3,H⟩:=bd_ H
 try dsimp -simprocs only at H
 simp only [Option.some.injEq,Prod.mk.injEq] at H
 obtain ⟨rfl,rfl⟩:=H
 obtain ⟨aa,ab,ag⟩:=Kd.R_slice HO0_1.out
 subst ag
 go_enter Tryz.func11,Tryz.ntmps11
 go_wp2_with (first|((with_reducible refine gate_dst (N:=2) rfl ?_);refine be_ 2 (cs:=#[.string a8,.slice aa a5.length ab]) 36 ?_;intro a7 hg w5 hbox hb;have z_:=p_ (Kd.R_below (raR_ HO0_1) hb) <| p_ (Kept.below (S:=(fun k_=>P0_1_ k_)) tq_6 hb) <| p_ (below_step th_ hb) <| p_ (hbox) <| p_ ((by rw [hg];exact (by first|exact HK.out.1|exact (show Kept w _ (fun k_=>P0_1_ k_) from tq_6).1):w.heap.size≤a7)) <| a_ ((by rw [hg];exact (below_size th_):w0.heap.size≤a7));clear HO0_1 HK HB;obtain ⟨HO0_1,HK,HB,a6,GW691,a9⟩:=z_;clear hb hbox hg;have ah:=bb2_ a6.out)|((with_reducible refine gate_callee (f:=35) rfl ?_);refine goesL_ (some 8) rfl rfl Tryz.func35 kr_ rfl #[.slice aa a5.length ab,.int .i64 a1] rfl tq_0 ?_;(with_reducible refine (laws_markCellS.calls k (fun k_=>some k_=(.slice aa a5.length ab:Value).ownBlock) (.slice aa a5.length ab) a5 a1 ac ae w0 _ ?side1 ?side2 A3.out).mono ?_);(case side1=>repeat (first|(with_reducible first|exact HB.out|apply below_alloc|apply pw_below_drewN|apply below_drew1|refine below_set ?_ a9.out)|exact HB.out));(case side2=>exact Kd.R_tight rfl HO0_1.out);rintro e w7 ⟨rfl,af,hb,hkp⟩;refine ⟨_,rfl,?_⟩;have z_:=p_ (Kd.R_reok rfl af (fun k_ e_=>HO0_1.out.1 k_ e_)) <| p_ (blk_kept (kb_ a6) hkp (fun hs_=>(fun e_=>(Kd.R_ne HO0_1.out a6.out (by decide)) e_) hs_)) <| p_ (Kept.then_ (S:=(fun k_=>P0_1_ k_)) tq_92 hkp (fun k_ hs_=>(fun e_=>(HO0_1.out.1 k_ e_.symm)) hs_)) <| a_ (hb);clear HO0_1 a6 HK HB;obtain ⟨HO0_1,a6,HK,HB⟩:=z_;(try clear hb);(try clear hkp);(try clear af)))
 go_ret
 exact ⟨tq_1,(raR_ HO0_1),th_,tq_92⟩

def laws_markIntS.l0:Nat→List Int→Int→Int→Option (Int × List Int)
 | 0,_,_,_=>none
 | k+1,x0,x1,x5=>if x5 < (x0.length:Int) then (if 0≤x5 then (laws_markIntS.l0 k (x0.set (x5:Int).toNat x1) (wrap64 (x1+1)) (wrap64 (x5+1))) else (none)) else (some (x1,x0))
def laws_markIntS.f (k:Nat) (l0:List Int) (a1:Int):Option (Int × List Int):=laws_markIntS.l0 k l0 a1 0
theorem laws_markIntS.calls (k:Nat) (P0_:Nat→Prop) (u9000_:Value) (l0:List Int) (a1:Int) (r1:Int) (r2:List Int) (w0 w:World) (hB:Below w0.heap.size w0 w) (ho0:Kd.R (Kd.int .i64) 3 w w0.heap.size P0_ u9000_ l0) (h:laws_markIntS.f k l0 a1=some (r1,r2)) :
  Calls Tryz.prog 36 #[u9000_,.int .i64 a1] w fun e w'=>e=.returned (.int .i64 r1)∧Kd.R (Kd.int .i64) 3 w' w0.heap.size (fun k_=>(P0_ k_∨w.heap.size≤k_)) u9000_ r2∧Below w0.heap.size w0 w'∧Kept w w' (fun k_=>P0_ k_):=by
 have ak:=m_ (show Kd.R (Kd.int .i64) 3 w w0.heap.size (fun k_=>(P0_ k_∨w.heap.size≤k_)) u9000_ l0 from Kd.R_mono ho0 (fun k_ hk=>(.inl hk)))
 have HK:=m_ (Kept.refl w (fun k_=>P0_ k_))
 have HW0:=m_ hB.size
 have HB:=m_ hB
 clear hB
 unfold laws_markIntS.f at h
 have H:=h
 clear h
 have H':=m_ H
 clear H
 go_enter Tryz.func36,Tryz.ntmps36
 go_wp2
 go_loopg [1,5] k (fun kq v1 v5 w'=>∃ (a7:List Int) (a6:Int) (a5:Int),v1=.int .i64 a6∧v5=.int .i64 a5∧Aside0 (laws_markIntS.l0 kq a7 a6 a5=some (r1,r2))∧Aside0 (kq≤k)∧Aside0 (Kd.R (Kd.int .i64) 3 w' w0.heap.size (fun k_=>(P0_ k_∨w.heap.size≤k_)) u9000_ a7)∧Aside0 (Kept w w' (fun k_=>P0_ k_))∧Aside0 (Below w0.heap.size w0 w'))
 case atStart=>exact ⟨(l0),(a1),(0),tq_3,tq_3,H',⟨Nat.le_refl _⟩,⟨(raR_ ak)⟩,⟨tq_6⟩,⟨th_⟩⟩
 case round =>
 clear H'
 try clear p2
 obtain ⟨a7,a6,a5,rfl,rfl,HA,HK1,HO_0,HK,HB⟩:=hrel
 cases gk with
 | zero=>exact absurd HA.out (by simp [laws_markIntS.l0])
 | succ k1 =>
 have H:=HA.out
 clear HA
 simp only [laws_markIntS.l0] at H
 have ae:=m_ H
 clear H
 obtain ⟨aq,al,am⟩:=Kd.R_slice HO_0.out
 subst am
 go_upto_if 9 with (fail)
 have H:=ae.out
 clear ae
 by_cases c5:a5 < (a7.length:Int)
 rotate_left
 ·rw [if_neg c5] at H
  have a8:=df_ c5
  clear c5
  (first|rw [a8]|(simp only [i64_w,i32_w];rw [a8])|skip)
  simp only [Option.some.injEq,Prod.mk.injEq] at H
  obtain ⟨rfl,rfl⟩:=H
  go_wp2
  go_ret
  exact ⟨tq_1,(raR_ HO_0),th_,tq_6⟩
 rw [if_pos c5] at H
 have a8:=de_ c5
 clear c5
 (first|rw [a8]|(simp only [i64_w,i32_w];rw [a8])|skip)
 obtain ⟨c6,H⟩:=fc_ H
 have an:=de_ c6
 clear c6
 obtain ⟨aa,a9⟩:∃ y_:List Int,y_=(a7.set (a5:Int).toNat a6):=⟨_,rfl⟩
 replace H:(laws_markIntS.l0 k1 aa (wrap64 (a6+1)) (wrap64 (a5+1)))=some (r1,r2):=rh_ a9 H
 have ab:=m_ a9
 clear a9
 have H':=m_ H
 clear H
 have p7:0≤(a5:Int):=od_ tq_2
 have q7:(a5:Int) < ((a7.length:Int):Int):=od_ tq_2
 obtain ⟨ac,ar,af,ag,ao,au,ah⟩:=Kd.R_form HO_0.out (by omega)
 (first|cases af|(injection af with ea_ en_ ec_;(first|subst ea_|(injection ea_ with ea_;subst ea_));subst ec_;clear en_))
 have ap:=m_ ag
 have av:=m_ ah
 clear ag ao ah
 have HMgo7:=m_ (show (P0_ ac∨w.heap.size≤ac) from (HO_0.out.1 _ rfl))
 obtain ⟨ai,aj⟩:=Kd.R_celln 0 HO_0.out (a5:Int) p7 q7
 replace p7:=eq_true p7
 replace q7:=eq_true q7
 have HP8:=Kd.R_putg HO_0.out (a5:Int) a6
 go_wp2_with (first|((with_reducible refine gate_store (t:=3) (p:=15) rfl ?_);refine store_event (t:=3) (p:=15) (v:=?vo_w9) (w1:=(wr.setCell ⟨ac,(a5:Int).toNat,none⟩ (.int .i64 a6))) ?hg ?ho ?hn ?hr ?_;(case ho=>rfl);(case hg=>rfl);(case hn=>rfl);(case hr=>first|(go_simp;done)|(go_simp;rfl));intro w9 hw;have hg:wr.grownBy w9 (some ac):=(by rw [hw];exact HP8.2);have hp_:Kd.R (Kd.int .i64) 3 w9 w0.heap.size (fun k_=>(P0_ k_∨w.heap.size≤k_)) (.slice (some ⟨ac,0,none⟩) a7.length al) aa:=(by rw [hw,ab.out];exact HP8.1);clear HP8;have z_:=p_ (hp_) <| p_ ((by rw [hw];exact below_set (HB.out) ap.out:Below w0.heap.size w0 w9)) <| a_ (Kept.of_grown (S:=(fun k_=>P0_ k_)) hg tq_6 (fun k_ e_=>(HO_0.out.1 k_ e_)));clear HO_0 HB HK;obtain ⟨HO_0,HB,HK⟩:=z_;clear hg hw hp_))
 go_roundg k1
 case measure=>have:=HK1.out;omega
 case rel=>exact ⟨(aa),(wrap64 (a6+1)),(wrap64 (a5+1)),tq_3,tq_3,H',⟨tq_14⟩,⟨(raR_ HO_0)⟩,⟨tq_6⟩,⟨th_⟩⟩

def laws_markRecS.l0:Nat→List (S86)→Int→Int→Option (Int × (List (S86)))
 | 0,_,_,_=>none
 | k+1,x0,x1,x5=>if x5 < (x0.length:Int) then (if 0≤x5 then ((some (x0.set (x5:Int).toNat (⟨x1,(rd_T86 x0 x5).f1,(rd_T86 x0 x5).f2⟩:S86):List (S86))).bind fun a5=>((some (a5.set (x5:Int).toNat (⟨(rd_T86 a5 x5).f0,wrap64 (x1+1),(rd_T86 a5 x5).f2⟩:S86):List (S86))).bind fun a6=>((laws_markText.f k (wrap64 ((wrap64 (x1+1))+1))).bind fun a7=>(laws_markRecS.l0 k (a6.set (x5:Int).toNat (⟨(rd_T86 a6 x5).f0,(rd_T86 a6 x5).f1,a7⟩:S86)) (wrap64 ((wrap64 ((wrap64 (x1+1))+1))+1)) (wrap64 (x5+1)))))) else (none)) else (some (x1,x0))
def laws_markRecS.f (k:Nat) (l0:List (S86)) (a1:Int):Option (Int × (List (S86))):=laws_markRecS.l0 k l0 a1 0
theorem laws_markRecS.calls (k:Nat) (P0_:Nat→Prop) (u9000_:Value) (l0:List (S86)) (a1:Int) (r1:Int) (r2:List (S86)) (w0 w:World) (hB:Below w0.heap.size w0 w) (ho0:Kd.R k86 86 w w0.heap.size P0_ u9000_ l0) (h:laws_markRecS.f k l0 a1=some (r1,r2)) :
  Calls Tryz.prog 69 #[u9000_,.int .i64 a1] w fun e w'=>e=.returned (.int .i64 r1)∧Kd.R k86 86 w' w0.heap.size (fun k_=>(P0_ k_∨w.heap.size≤k_)) u9000_ r2∧Below w0.heap.size w0 w'∧Kept w w' (fun k_=>P0_ k_):=by
 have cp:=m_ (show Kd.R k86 86 w w0.heap.size (fun k_=>(P0_ k_∨w.heap.size≤k_)) u9000_ l0 from Kd.R_mono ho0 (fun k_ hk=>(.inl hk)))
 have HK:=m_ (Kept.refl w (fun k_=>P0_ k_))
 have HW0:=m_ hB.size
 have HB:=m_ hB
 clear hB
 unfold laws_markRecS.f at h
 have H:=h
 clear h
 have H':=m_ H
 clear H
 go_enter Tryz.func69,Tryz.ntmps69
 go_wp2
 go_loopg [1,5] k (fun kq v1 v5 w'=>∃ (a6:List (S86)) (a8:Int) (a5:Int),v1=.int .i64 a8∧v5=.int .i64 a5∧Aside0 (laws_markRecS.l0 kq a6 a8 a5=some (r1,r2))∧Aside0 (kq≤k)∧Aside0 (Kd.R k86 86 w' w0.heap.size (fun k_=>(P0_ k_∨w.heap.size≤k_)) u9000_ a6)∧Aside0 (Kept w w' (fun k_=>P0_ k_))∧Aside0 (Below w0.heap.size w0 w'))
 case atStart=>exact ⟨(l0),(a1),(0),tq_3,tq_3,H',⟨Nat.le_refl _⟩,⟨(raR_ cp)⟩,⟨tq_6⟩,⟨th_⟩⟩
 case round =>
 clear H'
 try clear p2
 obtain ⟨a6,a8,a5,rfl,rfl,HA,HK1,HO_0,HK,HB⟩:=hrel
 cases gk with
 | zero=>exact absurd HA.out (by simp [laws_markRecS.l0])
 | succ k1 =>
 have H:=HA.out
 clear HA
 simp only [laws_markRecS.l0] at H
 have bw:=m_ H
 clear H
 obtain ⟨cy,b5,cq⟩:=Kd.R_slice HO_0.out
 subst cq
 go_upto_if 9 with (fail)
 have H:=bw.out
 clear bw
 by_cases c5:a5 < (a6.length:Int)
 rotate_left
 ·rw [if_neg c5] at H
  have ag:=df_ c5
  clear c5
  (first|rw [ag]|(simp only [i64_w,i32_w];rw [ag])|skip)
  simp only [Option.some.injEq,Prod.mk.injEq] at H
  obtain ⟨rfl,rfl⟩:=H
  go_wp2
  go_ret
  exact ⟨tq_1,(raR_ HO_0),th_,tq_6⟩
 rw [if_pos c5] at H
 have ag:=de_ c5
 clear c5
 (first|rw [ag]|(simp only [i64_w,i32_w];rw [ag])|skip)
 obtain ⟨c6,H⟩:=fc_ H
 have cr:=de_ c6
 clear c6
 obtain ⟨aa,b6,H⟩:=bs_ H
 obtain ⟨a9,b7,H⟩:=bs_ H
 obtain ⟨ae,A9,H⟩:=bd_ H
 obtain ⟨ay,ah⟩:∃ y_:List (S86),y_=(a9.set (a5:Int).toNat (⟨(rd_T86 a9 a5).f0,(rd_T86 a9 a5).f1,ae⟩:S86)):=⟨_,rfl⟩
 replace H:(laws_markRecS.l0 k1 ay (wrap64 ((wrap64 ((wrap64 (a8+1))+1))+1)) (wrap64 (a5+1)))=some (r1,r2):=rh_ ah H
 have b8:=m_ ah
 clear ah
 have H':=m_ H
 clear H
 have p7:0≤(a5:Int):=od_ tq_2
 have q7:(a5:Int) < ((a6.length:Int):Int):=od_ tq_2
 obtain ⟨a7,cz,bx,bz,ct,d0,ca⟩:=Kd.R_form HO_0.out (by omega)
 (first|cases bx|(injection bx with ea_ en_ ec_;(first|subst ea_|(injection ea_ with ea_;subst ea_));subst ec_;clear en_))
 have bh:=m_ bz
 have d1:=m_ ca
 clear bz ct ca
 have HMgo7:=m_ (show (P0_ a7∨w.heap.size≤a7) from (HO_0.out.1 _ rfl))
 obtain ⟨d2,bi,cb,al,am⟩:=Kd.R_elem HO_0.out z86 (a5:Int) p7 q7
 obtain rfl:=k86_openM cb
 have cc:wr.cell? ⟨a7,(a5:Int).toNat * 3,none⟩=some (.int .i64 ((rd_T86 a6 a5).f0)):=al 0 _ rfl
 have cd:wr.cell? ⟨a7,(a5:Int).toNat * 3+1,none⟩=some (.int .i64 ((rd_T86 a6 a5).f1)):=al 1 _ rfl
 have ce:wr.cell? ⟨a7,(a5:Int).toNat * 3+2,none⟩=some (.string ((rd_T86 a6 a5).f2)):=al 2 _ rfl
 have cf:wr.frozen? ⟨a7,(a5:Int).toNat * 3,none⟩=false:=am 0
 have cg:wr.frozen? ⟨a7,(a5:Int).toNat * 3+1,none⟩=false:=am 1
 have ch:wr.frozen? ⟨a7,(a5:Int).toNat * 3+2,none⟩=false:=am 2
 clear bi al am cb
 replace p7:=eq_true p7
 replace q7:=eq_true q7
 have b9:=m_ (show Kd.R k86 86 wr w0.heap.size (fun k_=>(P0_ k_∨w.heap.size≤k_)) (.slice (some ⟨a7,0,none⟩) a6.length b5) a6 from (raR_ HO_0))
 obtain ⟨cu,aq,ba,ai,ar⟩:=Kd.R_elem b9.out z86 (a5:Int) (od_ tq_2) (by have h_:(a5:Int) < ((a6.length:Int):Int):=od_ tq_2;first|exact h_|(have e_:=(Kd.R_reads' HO_0.out).1;omega)|simpa using h_)
 obtain rfl:=k86_openM ba
 have HP11:=Kd.R_seg b9.out (a5:Int) (od_ tq_2) (by have h_:(a5:Int) < ((a6.length:Int):Int):=od_ tq_2;first|exact h_|(have e_:=(Kd.R_reads' HO_0.out).1;omega)|simpa using h_) (seg:=[.int .i64 a8]) (j:=0) aq ai (show 1≤3 from by decide) (x':=(⟨a8,(rd_T86 a6 a5).f1,(rd_T86 a6 a5).f2⟩:S86)) (k86_mkM _ _ _ (⟨a8,(rd_T86 a6 a5).f1,(rd_T86 a6 a5).f2⟩:S86) ) (fun _ hk=>hk)
 have az:=ai 0 _ rfl
 (try simp only [show (k86).sz=3 from rfl,Nat.mul_one,Nat.add_zero] at az)
 have b0:=ar 0
 (try simp only [show (k86).sz=3 from rfl,Nat.mul_one,Nat.add_zero] at b0)
 clear aq ai ar ba
 go_wp2_with (first|((with_reducible refine gate_store (t:=3) (p:=16) rfl ?_);refine store_event (t:=3) (p:=16) (v:=?vo_w12) (w1:=(wr.setCell ⟨a7,(a5:Int).toNat * 3,none⟩ (.int .i64 a8))) ?hg ?ho ?hn ?hr ?_;(case ho=>rfl);(case hg=>rfl);(case hn=>rfl);(case hr=>first|(go_simp;done)|(go_simp;rfl));intro af hw;have hg:wr.grownBy af (some a7):=(by rw [hw];exact HP11.2);have hp_:Kd.R k86 86 af w0.heap.size (fun k_=>(P0_ k_∨w.heap.size≤k_)) (.slice (some ⟨a7,0,none⟩) a6.length b5) aa:=(by rw [hw,b6.out];exact HP11.1);clear HP11;have z_:=p_ (hp_) <| p_ ((by rw [hw];exact below_set (HB.out) bh.out:Below w0.heap.size w0 af)) <| a_ (Kept.of_grown (S:=(fun k_=>P0_ k_)) hg tq_6 (fun k_ e_=>(HO_0.out.1 k_ e_)));clear HO_0 HB HK;obtain ⟨HO_0,HB,HK⟩:=z_;clear hg hw hp_;have p8:0≤(a5:Int):=od_ tq_2;have q8:(a5:Int) < ((a6.length:Int):Int):=od_ tq_2;obtain ⟨d3,bj,ci,an,ao⟩:=Kd.R_elem HO_0.out z86 (a5:Int) p8 q8;obtain rfl:=k86_openM ci;have cj:af.cell? ⟨a7,(a5:Int).toNat * 3,none⟩=some (.int .i64 ((rd_T86 aa a5).f0)):=an 0 _ rfl;have ck:af.cell? ⟨a7,(a5:Int).toNat * 3+1,none⟩=some (.int .i64 ((rd_T86 aa a5).f1)):=an 1 _ rfl;have cl:af.cell? ⟨a7,(a5:Int).toNat * 3+2,none⟩=some (.string ((rd_T86 aa a5).f2)):=an 2 _ rfl;have cm:af.frozen? ⟨a7,(a5:Int).toNat * 3,none⟩=false:=ao 0;have cn:af.frozen? ⟨a7,(a5:Int).toNat * 3+1,none⟩=false:=ao 1;have co:af.frozen? ⟨a7,(a5:Int).toNat * 3+2,none⟩=false:=ao 2;clear bj an ao ci;replace p8:=eq_true p8;replace q8:=eq_true q8;have bb:=m_ (show Kd.R k86 86 af w0.heap.size (fun k_=>(P0_ k_∨w.heap.size≤k_)) (.slice (some ⟨a7,0,none⟩) a6.length b5) aa from (raR_ HO_0));obtain ⟨cv,au,bc,aj,av⟩:=Kd.R_elem bb.out z86 (a5:Int) (od_ tq_2) (by have h_:(a5:Int) < ((a6.length:Int):Int):=od_ tq_2;first|exact h_|(have e_:=(Kd.R_reads' HO_0.out).1;omega)|simpa using h_);obtain rfl:=k86_openM bc;have HP13:=Kd.R_seg bb.out (a5:Int) (od_ tq_2) (by have h_:(a5:Int) < ((a6.length:Int):Int):=od_ tq_2;first|exact h_|(have e_:=(Kd.R_reads' HO_0.out).1;omega)|simpa using h_) (seg:=[.int .i64 (wrap64 (a8+1))]) (j:=1) au aj (show 2≤3 from by decide) (x':=(⟨(rd_T86 aa a5).f0,wrap64 (a8+1),(rd_T86 aa a5).f2⟩:S86)) (k86_mkM _ _ _ (⟨(rd_T86 aa a5).f0,wrap64 (a8+1),(rd_T86 aa a5).f2⟩:S86) ) (fun _ hk=>hk);have b1:=aj 1 _ rfl;(try simp only [show (k86).sz=3 from rfl,Nat.mul_one,Nat.add_zero] at b1);have b2:=av 1;(try simp only [show (k86).sz=3 from rfl,Nat.mul_one,Nat.add_zero] at b2);clear au aj av bc)|((with_reducible refine gate_store (t:=3) (p:=23) rfl ?_);refine store_event (t:=3) (p:=23) (v:=?vo_w14) (w1:=(af.setCell ⟨a7,(a5:Int).toNat * 3+1,none⟩ (.int .i64 (wrap64 (a8+1))))) ?hg ?ho ?hn ?hr ?_;(case ho=>rfl);(case hg=>rfl);(case hn=>rfl);(case hr=>first|(go_simp;done)|(go_simp;rfl));intro bl hw;have hg:af.grownBy bl (some a7):=(by rw [hw];exact HP13.2);have hp_:Kd.R k86 86 bl w0.heap.size (fun k_=>(P0_ k_∨w.heap.size≤k_)) (.slice (some ⟨a7,0,none⟩) a6.length b5) a9:=(by rw [hw,b7.out];exact HP13.1);clear HP13;have z_:=p_ (hp_) <| p_ ((by rw [hw];exact below_set (HB.out) bh.out:Below w0.heap.size w0 bl)) <| a_ (Kept.of_grown (S:=(fun k_=>P0_ k_)) hg tq_6 (fun k_ e_=>(HO_0.out.1 k_ e_)));clear HO_0 HB HK;obtain ⟨HO_0,HB,HK⟩:=z_;clear hg hw hp_)|((with_reducible refine gate_callee (f:=68) rfl ?_);refine goesL_ (some 29) rfl rfl Tryz.func68 kr_ rfl #[.int .i64 (wrap64 ((wrap64 (a8+1))+1))] rfl tq_0 ?_;(with_reducible refine (laws_markText.calls k1 (wrap64 ((wrap64 (a8+1))+1)) ae _ A9.out).mono ?_);rintro e ap ⟨rfl,hb⟩;refine ⟨_,rfl,?_⟩;have z_:=p_ (Kd.R_below (raR_ HO_0) hb) <| p_ (Kept.below (S:=(fun k_=>P0_ k_)) tq_6 hb) <| a_ (below_step th_ hb);clear HO_0 HK HB;obtain ⟨HO_0,HK,HB⟩:=z_;(try clear hb);(try clear hk);have bm:0≤(a5:Int):=od_ tq_2;have bn:(a5:Int) < ((a6.length:Int):Int):=od_ tq_2;obtain ⟨cw,bd,be,ab,ac⟩:=Kd.R_elem HO_0.out z86 (a5:Int) bm bn;obtain rfl:=k86_openM be;have bo:ap.cell? ⟨a7,(a5:Int).toNat * 3,none⟩=some (.int .i64 ((rd_T86 a9 a5).f0)):=ab 0 _ rfl;have bp:ap.cell? ⟨a7,(a5:Int).toNat * 3+1,none⟩=some (.int .i64 ((rd_T86 a9 a5).f1)):=ab 1 _ rfl;have bq:ap.cell? ⟨a7,(a5:Int).toNat * 3+2,none⟩=some (.string ((rd_T86 a9 a5).f2)):=ab 2 _ rfl;have br:ap.frozen? ⟨a7,(a5:Int).toNat * 3,none⟩=false:=ac 0;have bs:ap.frozen? ⟨a7,(a5:Int).toNat * 3+1,none⟩=false:=ac 1;have bu:ap.frozen? ⟨a7,(a5:Int).toNat * 3+2,none⟩=false:=ac 2;clear bd ab ac be;replace bm:=eq_true bm;replace bn:=eq_true bn;have bf:=m_ (show Kd.R k86 86 ap w0.heap.size (fun k_=>(P0_ k_∨w.heap.size≤k_)) (.slice (some ⟨a7,0,none⟩) a6.length b5) a9 from (raR_ HO_0));obtain ⟨cx,aw,bg,ak,ax⟩:=Kd.R_elem bf.out z86 (a5:Int) (od_ tq_2) (by have h_:(a5:Int) < ((a6.length:Int):Int):=od_ tq_2;first|exact h_|(have e_:=(Kd.R_reads' HO_0.out).1;omega)|simpa using h_);obtain rfl:=k86_openM bg;have HP16:=Kd.R_seg bf.out (a5:Int) (od_ tq_2) (by have h_:(a5:Int) < ((a6.length:Int):Int):=od_ tq_2;first|exact h_|(have e_:=(Kd.R_reads' HO_0.out).1;omega)|simpa using h_) (seg:=[.string ae]) (j:=2) aw ak (show 3≤3 from by decide) (x':=(⟨(rd_T86 a9 a5).f0,(rd_T86 a9 a5).f1,ae⟩:S86)) (k86_mkM _ _ _ (⟨(rd_T86 a9 a5).f0,(rd_T86 a9 a5).f1,ae⟩:S86) ) (fun _ hk=>hk);have b3:=ak 2 _ rfl;(try simp only [show (k86).sz=3 from rfl,Nat.mul_one,Nat.add_zero] at b3);have b4:=ax 2;(try simp only [show (k86).sz=3 from rfl,Nat.mul_one,Nat.add_zero] at b4);clear aw ak ax bg)|((with_reducible refine gate_store (t:=9) (p:=31) rfl ?_);refine store_event (t:=9) (p:=31) (v:=?vo_w17) (w1:=(ap.setCell ⟨a7,(a5:Int).toNat * 3+2,none⟩ (.string ae))) ?hg ?ho ?hn ?hr ?_;(case ho=>rfl);(case hg=>rfl);(case hn=>rfl);(case hr=>first|(go_simp;done)|(go_simp;rfl));intro bv hw;have hg:ap.grownBy bv (some a7):=(by rw [hw];exact HP16.2);have hp_:Kd.R k86 86 bv w0.heap.size (fun k_=>(P0_ k_∨w.heap.size≤k_)) (.slice (some ⟨a7,0,none⟩) a6.length b5) ay:=(by rw [hw,b8.out];exact HP16.1);clear HP16;have z_:=p_ (hp_) <| p_ ((by rw [hw];exact below_set (HB.out) bh.out:Below w0.heap.size w0 bv)) <| a_ (Kept.of_grown (S:=(fun k_=>P0_ k_)) hg tq_6 (fun k_ e_=>(HO_0.out.1 k_ e_)));clear HO_0 HB HK;obtain ⟨HO_0,HB,HK⟩:=z_;clear hg hw hp_))
 go_roundg k1
 case measure=>have:=HK1.out;omega
 case rel=>exact ⟨(ay),(wrap64 ((wrap64 ((wrap64 (a8+1))+1))+1)),(wrap64 (a5+1)),tq_3,tq_3,H',⟨tq_14⟩,⟨(raR_ HO_0)⟩,⟨tq_6⟩,⟨th_⟩⟩

def laws_markEntryS.l0:Nat→List (S90)→Int→Int→Option (Int × (List (S90)))
 | 0,_,_,_=>none
 | k+1,x0,x1,x5=>if x5 < (x0.length:Int) then (if 0≤x5 then ((some (x0.set (x5:Int).toNat (⟨x1,(rd_T90 x0 x5).f1⟩:S90):List (S90))).bind fun a5=>((laws_markText.f k (wrap64 (x1+1))).bind fun a6=>(laws_markEntryS.l0 k (a5.set (x5:Int).toNat (⟨(rd_T90 a5 x5).f0,a6⟩:S90)) (wrap64 ((wrap64 (x1+1))+1)) (wrap64 (x5+1))))) else (none)) else (some (x1,x0))
def laws_markEntryS.f (k:Nat) (l0:List (S90)) (a1:Int):Option (Int × (List (S90))):=laws_markEntryS.l0 k l0 a1 0
theorem laws_markEntryS.calls (k:Nat) (P0_:Nat→Prop) (u9000_:Value) (l0:List (S90)) (a1:Int) (r1:Int) (r2:List (S90)) (w0 w:World) (hB:Below w0.heap.size w0 w) (ho0:Kd.R k90 90 w w0.heap.size P0_ u9000_ l0) (h:laws_markEntryS.f k l0 a1=some (r1,r2)) :
  Calls Tryz.prog 70 #[u9000_,.int .i64 a1] w fun e w'=>e=.returned (.int .i64 r1)∧Kd.R k90 90 w' w0.heap.size (fun k_=>(P0_ k_∨w.heap.size≤k_)) u9000_ r2∧Below w0.heap.size w0 w'∧Kept w w' (fun k_=>P0_ k_):=by
 have bn:=m_ (show Kd.R k90 90 w w0.heap.size (fun k_=>(P0_ k_∨w.heap.size≤k_)) u9000_ l0 from Kd.R_mono ho0 (fun k_ hk=>(.inl hk)))
 have HK:=m_ (Kept.refl w (fun k_=>P0_ k_))
 have HW0:=m_ hB.size
 have HB:=m_ hB
 clear hB
 unfold laws_markEntryS.f at h
 have H:=h
 clear h
 have H':=m_ H
 clear H
 go_enter Tryz.func70,Tryz.ntmps70
 go_wp2
 go_loopg [1,5] k (fun kq v1 v5 w'=>∃ (a6:List (S90)) (a7:Int) (a5:Int),v1=.int .i64 a7∧v5=.int .i64 a5∧Aside0 (laws_markEntryS.l0 kq a6 a7 a5=some (r1,r2))∧Aside0 (kq≤k)∧Aside0 (Kd.R k90 90 w' w0.heap.size (fun k_=>(P0_ k_∨w.heap.size≤k_)) u9000_ a6)∧Aside0 (Kept w w' (fun k_=>P0_ k_))∧Aside0 (Below w0.heap.size w0 w'))
 case atStart=>exact ⟨(l0),(a1),(0),tq_3,tq_3,H',⟨Nat.le_refl _⟩,⟨(raR_ bn)⟩,⟨tq_6⟩,⟨th_⟩⟩
 case round =>
 clear H'
 try clear p2
 obtain ⟨a6,a7,a5,rfl,rfl,HA,HK1,HO_0,HK,HB⟩:=hrel
 cases gk with
 | zero=>exact absurd HA.out (by simp [laws_markEntryS.l0])
 | succ k1 =>
 have H:=HA.out
 clear HA
 simp only [laws_markEntryS.l0] at H
 have b7:=m_ H
 clear H
 obtain ⟨bu,b2,bo⟩:=Kd.R_slice HO_0.out
 subst bo
 go_upto_if 9 with (fail)
 have H:=b7.out
 clear b7
 by_cases c5:a5 < (a6.length:Int)
 rotate_left
 ·rw [if_neg c5] at H
  have ab:=df_ c5
  clear c5
  (first|rw [ab]|(simp only [i64_w,i32_w];rw [ab])|skip)
  simp only [Option.some.injEq,Prod.mk.injEq] at H
  obtain ⟨rfl,rfl⟩:=H
  go_wp2
  go_ret
  exact ⟨tq_1,(raR_ HO_0),th_,tq_6⟩
 rw [if_pos c5] at H
 have ab:=de_ c5
 clear c5
 (first|rw [ab]|(simp only [i64_w,i32_w];rw [ab])|skip)
 obtain ⟨c6,H⟩:=fc_ H
 have bp:=de_ c6
 clear c6
 obtain ⟨a9,aw,H⟩:=bs_ H
 obtain ⟨aa,A8,H⟩:=bd_ H
 obtain ⟨ak,ac⟩:∃ y_:List (S90),y_=(a9.set (a5:Int).toNat (⟨(rd_T90 a9 a5).f0,aa⟩:S90)):=⟨_,rfl⟩
 replace H:(laws_markEntryS.l0 k1 ak (wrap64 ((wrap64 (a7+1))+1)) (wrap64 (a5+1)))=some (r1,r2):=rh_ ac H
 have ax:=m_ ac
 clear ac
 have H':=m_ H
 clear H
 have p7:0≤(a5:Int):=od_ tq_2
 have q7:(a5:Int) < ((a6.length:Int):Int):=od_ tq_2
 obtain ⟨a8,bv,b8,b9,bq,bw,ba⟩:=Kd.R_form HO_0.out (by omega)
 (first|cases b8|(injection b8 with ea_ en_ ec_;(first|subst ea_|(injection ea_ with ea_;subst ea_));subst ec_;clear en_))
 have bb:=m_ b9
 have bx:=m_ ba
 clear b9 bq ba
 have HMgo7:=m_ (show (P0_ a8∨w.heap.size≤a8) from (HO_0.out.1 _ rfl))
 obtain ⟨bz,b3,bc,al,am⟩:=Kd.R_elem HO_0.out z90 (a5:Int) p7 q7
 obtain rfl:=k90_openM bc
 have bd:wr.cell? ⟨a8,(a5:Int).toNat * 2,none⟩=some (.int .i64 ((rd_T90 a6 a5).f0)):=al 0 _ rfl
 have be:wr.cell? ⟨a8,(a5:Int).toNat * 2+1,none⟩=some (.string ((rd_T90 a6 a5).f1)):=al 1 _ rfl
 have bf:wr.frozen? ⟨a8,(a5:Int).toNat * 2,none⟩=false:=am 0
 have bg:wr.frozen? ⟨a8,(a5:Int).toNat * 2+1,none⟩=false:=am 1
 clear b3 al am bc
 replace p7:=eq_true p7
 replace q7:=eq_true q7
 have ay:=m_ (show Kd.R k90 90 wr w0.heap.size (fun k_=>(P0_ k_∨w.heap.size≤k_)) (.slice (some ⟨a8,0,none⟩) a6.length b2) a6 from (raR_ HO_0))
 obtain ⟨br,ag,az,ae,ah⟩:=Kd.R_elem ay.out z90 (a5:Int) (od_ tq_2) (by have h_:(a5:Int) < ((a6.length:Int):Int):=od_ tq_2;first|exact h_|(have e_:=(Kd.R_reads' HO_0.out).1;omega)|simpa using h_)
 obtain rfl:=k90_openM az
 have HP10:=Kd.R_seg ay.out (a5:Int) (od_ tq_2) (by have h_:(a5:Int) < ((a6.length:Int):Int):=od_ tq_2;first|exact h_|(have e_:=(Kd.R_reads' HO_0.out).1;omega)|simpa using h_) (seg:=[.int .i64 a7]) (j:=0) ag ae (show 1≤2 from by decide) (x':=(⟨a7,(rd_T90 a6 a5).f1⟩:S90)) (k90_mkM _ _ _ (⟨a7,(rd_T90 a6 a5).f1⟩:S90) ) (fun _ hk=>hk)
 have an:=ae 0 _ rfl
 (try simp only [show (k90).sz=2 from rfl,Nat.mul_one,Nat.add_zero] at an)
 have ao:=ah 0
 (try simp only [show (k90).sz=2 from rfl,Nat.mul_one,Nat.add_zero] at ao)
 clear ag ae ah az
 go_wp2_with (first|((with_reducible refine gate_store (t:=3) (p:=16) rfl ?_);refine store_event (t:=3) (p:=16) (v:=?vo_w11) (w1:=(wr.setCell ⟨a8,(a5:Int).toNat * 2,none⟩ (.int .i64 a7))) ?hg ?ho ?hn ?hr ?_;(case ho=>rfl);(case hg=>rfl);(case hn=>rfl);(case hr=>first|(go_simp;done)|(go_simp;rfl));intro b4 hw;have hg:wr.grownBy b4 (some a8):=(by rw [hw];exact HP10.2);have hp_:Kd.R k90 90 b4 w0.heap.size (fun k_=>(P0_ k_∨w.heap.size≤k_)) (.slice (some ⟨a8,0,none⟩) a6.length b2) a9:=(by rw [hw,aw.out];exact HP10.1);clear HP10;have z_:=p_ (hp_) <| p_ ((by rw [hw];exact below_set (HB.out) bb.out:Below w0.heap.size w0 b4)) <| a_ (Kept.of_grown (S:=(fun k_=>P0_ k_)) hg tq_6 (fun k_ e_=>(HO_0.out.1 k_ e_)));clear HO_0 HB HK;obtain ⟨HO_0,HB,HK⟩:=z_;clear hg hw hp_)|((with_reducible refine gate_callee (f:=68) rfl ?_);refine goesL_ (some 22) rfl rfl Tryz.func68 kr_ rfl #[.int .i64 (wrap64 (a7+1))] rfl tq_0 ?_;(with_reducible refine (laws_markText.calls k1 (wrap64 (a7+1)) aa _ A8.out).mono ?_);rintro e ap ⟨rfl,hb⟩;refine ⟨_,rfl,?_⟩;have z_:=p_ (Kd.R_below (raR_ HO_0) hb) <| p_ (Kept.below (S:=(fun k_=>P0_ k_)) tq_6 hb) <| a_ (below_step th_ hb);clear HO_0 HK HB;obtain ⟨HO_0,HK,HB⟩:=z_;(try clear hb);(try clear hk);have p9:0≤(a5:Int):=od_ tq_2;have q9:(a5:Int) < ((a6.length:Int):Int):=od_ tq_2;obtain ⟨ca,b5,bh,aq,ar⟩:=Kd.R_elem HO_0.out z90 (a5:Int) p9 q9;obtain rfl:=k90_openM bh;have bi:ap.cell? ⟨a8,(a5:Int).toNat * 2,none⟩=some (.int .i64 ((rd_T90 a9 a5).f0)):=aq 0 _ rfl;have bj:ap.cell? ⟨a8,(a5:Int).toNat * 2+1,none⟩=some (.string ((rd_T90 a9 a5).f1)):=aq 1 _ rfl;have bl:ap.frozen? ⟨a8,(a5:Int).toNat * 2,none⟩=false:=ar 0;have bm:ap.frozen? ⟨a8,(a5:Int).toNat * 2+1,none⟩=false:=ar 1;clear b5 aq ar bh;replace p9:=eq_true p9;replace q9:=eq_true q9;have b0:=m_ (show Kd.R k90 90 ap w0.heap.size (fun k_=>(P0_ k_∨w.heap.size≤k_)) (.slice (some ⟨a8,0,none⟩) a6.length b2) a9 from (raR_ HO_0));obtain ⟨bs,ai,b1,af,aj⟩:=Kd.R_elem b0.out z90 (a5:Int) (od_ tq_2) (by have h_:(a5:Int) < ((a6.length:Int):Int):=od_ tq_2;first|exact h_|(have e_:=(Kd.R_reads' HO_0.out).1;omega)|simpa using h_);obtain rfl:=k90_openM b1;have HP13:=Kd.R_seg b0.out (a5:Int) (od_ tq_2) (by have h_:(a5:Int) < ((a6.length:Int):Int):=od_ tq_2;first|exact h_|(have e_:=(Kd.R_reads' HO_0.out).1;omega)|simpa using h_) (seg:=[.string aa]) (j:=1) ai af (show 2≤2 from by decide) (x':=(⟨(rd_T90 a9 a5).f0,aa⟩:S90)) (k90_mkM _ _ _ (⟨(rd_T90 a9 a5).f0,aa⟩:S90) ) (fun _ hk=>hk);have au:=af 1 _ rfl;(try simp only [show (k90).sz=2 from rfl,Nat.mul_one,Nat.add_zero] at au);have av:=aj 1;(try simp only [show (k90).sz=2 from rfl,Nat.mul_one,Nat.add_zero] at av);clear ai af aj b1)|((with_reducible refine gate_store (t:=9) (p:=24) rfl ?_);refine store_event (t:=9) (p:=24) (v:=?vo_w14) (w1:=(ap.setCell ⟨a8,(a5:Int).toNat * 2+1,none⟩ (.string aa))) ?hg ?ho ?hn ?hr ?_;(case ho=>rfl);(case hg=>rfl);(case hn=>rfl);(case hr=>first|(go_simp;done)|(go_simp;rfl));intro b6 hw;have hg:ap.grownBy b6 (some a8):=(by rw [hw];exact HP13.2);have hp_:Kd.R k90 90 b6 w0.heap.size (fun k_=>(P0_ k_∨w.heap.size≤k_)) (.slice (some ⟨a8,0,none⟩) a6.length b2) ak:=(by rw [hw,ax.out];exact HP13.1);clear HP13;have z_:=p_ (hp_) <| p_ ((by rw [hw];exact below_set (HB.out) bb.out:Below w0.heap.size w0 b6)) <| a_ (Kept.of_grown (S:=(fun k_=>P0_ k_)) hg tq_6 (fun k_ e_=>(HO_0.out.1 k_ e_)));clear HO_0 HB HK;obtain ⟨HO_0,HB,HK⟩:=z_;clear hg hw hp_))
 go_roundg k1
 case measure=>have:=HK1.out;omega
 case rel=>exact ⟨(ak),(wrap64 ((wrap64 (a7+1))+1)),(wrap64 (a5+1)),tq_3,tq_3,H',⟨tq_14⟩,⟨(raR_ HO_0)⟩,⟨tq_6⟩,⟨th_⟩⟩

/-! An element's inner rows, lent to a call that writes them. -/
theorem mi_lend {w0 w W:World} {P0_:Nat→Prop} {g cap n:Nat} {xs:List S62} {i:Int} (HO:Kd.S k62 62 W w0.heap.size (fun k_=>(P0_ k_∨w.heap.size≤k_)) (.slice (some ⟨g,0,none⟩) n cap) xs) (HK:Kept w W (fun k_=>P0_ k_)) (h0:0≤i) (h1:i < (n:Int)) :
  ∃ v4 v5:Value,W.cell? ⟨g,i.toNat * 6+4,none⟩=some v4∧W.cell? ⟨g,i.toNat * 6+5,none⟩=some v5 ∧
   (Kd.R k86 86 W w0.heap.size (fun k_=>some k_=v4.ownBlock) v4 (rd_T62 xs i).f4∧∀ (W':World) (r:List S86),Kept W W' (fun k_=>some k_=v4.ownBlock)→Kd.R k86 86 W' w0.heap.size (fun k_=>(some k_=v4.ownBlock∨W.heap.size≤k_)) v4 r →
    Kd.S k62 62 W' w0.heap.size (fun k_=>(P0_ k_∨w.heap.size≤k_)) (.slice (some ⟨g,0,none⟩) n cap) (xs.set i.toNat (⟨(rd_T62 xs i).f0,(rd_T62 xs i).f1,(rd_T62 xs i).f2,(rd_T62 xs i).f3,r,(rd_T62 xs i).f5⟩:S62))∧Kept w W' (fun k_=>P0_ k_)) ∧
   (Kd.R k90 90 W w0.heap.size (fun k_=>some k_=v5.ownBlock) v5 (rd_T62 xs i).f5∧∀ (W':World) (r:List S90),Kept W W' (fun k_=>some k_=v5.ownBlock)→Kd.R k90 90 W' w0.heap.size (fun k_=>(some k_=v5.ownBlock∨W.heap.size≤k_)) v5 r →
    Kd.S k62 62 W' w0.heap.size (fun k_=>(P0_ k_∨w.heap.size≤k_)) (.slice (some ⟨g,0,none⟩) n cap) (xs.set i.toNat (⟨(rd_T62 xs i).f0,(rd_T62 xs i).f1,(rd_T62 xs i).f2,(rd_T62 xs i).f3,(rd_T62 xs i).f4,r⟩:S62))∧Kept w W' (fun k_=>P0_ k_)):=by
 obtain ⟨oki,c,hcl,hM,hcc,hoki,hH⟩:=Kd.S_lend HO z62 i h0 h1
 obtain ⟨v4,v5,rfl,g4,g5⟩:=k62_openM hM
 have in4:∀ k,some k=v4.ownBlock→oki k:=fun k e=>g4.1 k e.symm
 have in5:∀ k,some k=v5.ownBlock→oki k:=fun k e=>g5.1 k e.symm
 refine ⟨v4,v5,hcc 4 _ rfl,hcc 5 _ rfl,⟨Kd.R_tight rfl g4,fun W' r hk hr=>?_⟩,⟨Kd.R_tight rfl g5,fun W' r hk hr=>?_⟩⟩
 ·have hr':Kd.R k86 86 W' w0.heap.size oki v4 r:=Kd.R_mono (Kd.R_tight rfl hr) (fun k e=>in4 k e)
  have g5':Kd.R k90 90 W' w0.heap.size oki v5 _:=Kd.R_mono (Kd.R_step (Kd.R_apart' g5 (Kd.R_typed g4) (by decide)) (fun k hk2 hlt=>hk.2 k hlt hk2.2)) (fun _ h=>h.1)
  exact ⟨Kd.H_back (Kd.H_kept hH hk (fun k ho hn hs=>hn (in4 k hs))) (k62_mkM _ _ _ (⟨_,_,_,_,r,_⟩:S62) hr' g5') (fun _ h=>h),HK.then_ hk (fun k hs=>(hoki k (in4 k hs)).1)⟩
 ·have hr':Kd.R k90 90 W' w0.heap.size oki v5 r:=Kd.R_mono (Kd.R_tight rfl hr) (fun k e=>in5 k e)
  have g4':Kd.R k86 86 W' w0.heap.size oki v4 _:=Kd.R_mono (Kd.R_step (Kd.R_apart' g4 (Kd.R_typed g5) (by decide)) (fun k hk2 hlt=>hk.2 k hlt hk2.2)) (fun _ h=>h.1)
  exact ⟨Kd.H_back (Kd.H_kept hH hk (fun k ho hn hs=>hn (in5 k hs))) (k62_mkM _ _ _ (⟨_,_,_,_,_,r⟩:S62) g4' hr') (fun _ h=>h),HK.then_ hk (fun k hs=>(hoki k (in5 k hs)).1)⟩
theorem ty_no {W:World} {k t:Nat} {cells:Array Value} (hb:W.heap[k]?=some (.cells cells t (0,0))) {qs:List Nat} (ht:∀ q,q ∈ qs→q≠t):¬ ∃ q,q ∈ qs∧∃ cells,W.heap[k]?=some (.cells cells q (0,0)):=by
 rintro ⟨q,hq,c2,h2⟩
 rw [hb] at h2
 injection h2 with h2
 injection h2 with _ h3 _
 exact ht q hq h3.symm
theorem R_keptT {α:Type} {d:Kd α} {e b:Nat} {W W':World} {ok:Nat→Prop} {v:Value} {xs:List α} {S:Nat→Prop} (hE:d.E=[]) (h:d.R e W b ok v xs) (hk:Kept W W' S) (hS:∀ k,some k=v.ownBlock→¬ S k):d.R e W' b ok v xs :=
 Kd.R_mono (Kd.R_step (Kd.R_tight hE h) (fun k hk2 hlt=>hk.2 k hlt (hS k hk2))) (fun k e=>h.1 k e.symm)
theorem keep_base {α:Type} {d:Kd α} {e b b':Nat} {W:World} {ok:Nat→Prop} {v:Value} {xs:List α} (_h:Kd.S d e W b ok v xs) (hb:b'≤b):b'≤b:=hb
theorem keepS {α β:Type} {d:Kd α} {dS:Kd β} {e eS b bS:Nat} {W W':World} {okB okM okS R2:Nat→Prop} {vB vS:Value} {xs:List α} {ys:List β} (hB:Kd.S d e W b okB vB xs) (hS:dS.R eS W bS okS vS ys) (hne:∀ q,q ∈ e :: d.E→q≠eS) (hd:∀ k,okB k→¬ okM k)
  (hk:Kept W W' (fun k=>some k=vS.ownBlock∨(okM k∧R2 k))):Kd.S d e W' b okB vB xs :=
 Kd.S_mono (Kd.S_step (Kd.S_bound hB) (fun k hk2 hlt=>hk.2 k hlt (fun hs=>hs.elim (fun h=>by
  obtain ⟨c,hc⟩:=Kd.R_typed hS k h.symm
  exact ty_no hc hne hk2.2.2.2) (fun h=>hd k hk2.1 h.1)))) (fun k hk2=>hk2.1)
theorem offS {α β:Type} {d:Kd α} {dS:Kd β} {e eS b bS N:Nat} {W:World} {okM okS R2:Nat→Prop} {vM vS:Value} {xs:List α} {ys:List β} (hM:Kd.S d e W b (fun k=>(some k=vS.ownBlock∨(okM k∧R2 k))∨N≤k) vM xs) (hS:dS.R eS W bS okS vS ys) (hne:∀ q,q ∈ e :: d.E→q≠eS):Kd.S d e W b (fun k=>okM k∨N≤k) vM xs :=
 Kd.S_mono (Kd.S_bound hM) (fun k h=>h.1.elim (fun h1=>h1.elim (fun h0=>by
  obtain ⟨c,hc⟩:=Kd.R_typed hS k h0.symm
  exact absurd h.2.2.2 (ty_no hc hne)) (fun h1=>.inl h1.1)) .inr)
theorem neS {α β:Type} {d:Kd α} {dM:Kd β} {e eM b bM:Nat} {W:World} {okB okM:Nat→Prop} {vB vM:Value} {xs:List α} {ys:List β} (hB:Kd.S d e W b okB vB xs) (_hM:Kd.S dM eM W bM okM vM ys) (hd:∀ k,okM k→¬ okB k) (k:Nat) (h:okM k∨W.heap.size≤k):some k≠vB.ownBlock :=
 fun he=>h.elim (fun h=>hd k h ((Kd.S_R hB).1 k he.symm)) (fun h=>absurd (Kd.S_lt hB k he.symm) (Nat.not_lt.mpr h))
theorem neT {α:Type} {d:Kd α} {e b:Nat} {W:World} {okM:Nat→Prop} {vM:Value} {xs:List α} {k:Nat} (hM:Kd.S d e W b okM vM xs) (hd:¬ okM k):some k≠vM.ownBlock:=fun he=>hd ((Kd.S_R hM).1 k he.symm)
def laws_markInodeS.l0:Nat→List (S62)→Int→Int→Option (Int × (List (S62)))
 | 0,_,_,_=>none
 | k+1,x0,x1,x5=>if x5 < (x0.length:Int) then (if 0≤x5 then ((some (x0.set (x5:Int).toNat (⟨x1,(rd_T62 x0 x5).f1,(rd_T62 x0 x5).f2,(rd_T62 x0 x5).f3,(rd_T62 x0 x5).f4,(rd_T62 x0 x5).f5⟩:S62):List (S62))).bind fun a5=>((some (a5.set (x5:Int).toNat (⟨(rd_T62 a5 x5).f0,wrap64 (x1+1),(rd_T62 a5 x5).f2,(rd_T62 a5 x5).f3,(rd_T62 a5 x5).f4,(rd_T62 a5 x5).f5⟩:S62):List (S62))).bind fun a6=>((some (a6.set (x5:Int).toNat (⟨(rd_T62 a6 x5).f0,(rd_T62 a6 x5).f1,wrap64 ((wrap64 (x1+1))+1),(rd_T62 a6 x5).f3,(rd_T62 a6 x5).f4,(rd_T62 a6 x5).f5⟩:S62):List (S62))).bind fun a7=>((laws_markText.f k (wrap64 ((wrap64 ((wrap64 (x1+1))+1))+1))).bind fun a8=>((some (a7.set (x5:Int).toNat (⟨(rd_T62 a7 x5).f0,(rd_T62 a7 x5).f1,(rd_T62 a7 x5).f2,a8,(rd_T62 a7 x5).f4,(rd_T62 a7 x5).f5⟩:S62):List (S62))).bind fun ya_=>((laws_markRecS.f k ((rd_T62 ya_ x5).f4) (wrap64 ((wrap64 ((wrap64 ((wrap64 (x1+1))+1))+1))+1))).bind fun tr_=>((some (ya_.set (x5:Int).toNat (⟨(rd_T62 ya_ x5).f0,(rd_T62 ya_ x5).f1,(rd_T62 ya_ x5).f2,(rd_T62 ya_ x5).f3,tr_.2,(rd_T62 ya_ x5).f5⟩:S62):List (S62))).bind fun yb_=>((laws_markEntryS.f k ((rd_T62 yb_ x5).f5) tr_.1).bind fun te_=>((some (yb_.set (x5:Int).toNat (⟨(rd_T62 yb_ x5).f0,(rd_T62 yb_ x5).f1,(rd_T62 yb_ x5).f2,(rd_T62 yb_ x5).f3,(rd_T62 yb_ x5).f4,te_.2⟩:S62):List (S62))).bind fun yc_=>(laws_markInodeS.l0 k yc_ te_.1 (wrap64 (x5+1)))))))))))) else (none)) else (some (x1,x0))
def laws_markInodeS.f (k:Nat) (l0:List (S62)) (a1:Int):Option (Int × (List (S62))):=laws_markInodeS.l0 k l0 a1 0
theorem laws_markInodeS.calls (k:Nat) (P0_:Nat→Prop) (u9000_:Value) (l0:List (S62)) (a1:Int) (r1:Int) (r2:List (S62)) (w0 w:World) (hB:Below w0.heap.size w0 w) (ho0:Kd.S k62 62 w w0.heap.size P0_ u9000_ l0) (h:laws_markInodeS.f k l0 a1=some (r1,r2)) :
  Calls Tryz.prog 37 #[u9000_,.int .i64 a1] w fun e w'=>e=.returned (.int .i64 r1)∧Kd.S k62 62 w' w0.heap.size (fun k_=>(P0_ k_∨w.heap.size≤k_)) u9000_ r2∧Below w0.heap.size w0 w'∧Kept w w' (fun k_=>P0_ k_):=by
 have eh:=m_ (show Kd.S k62 62 w w0.heap.size (fun k_=>(P0_ k_∨w.heap.size≤k_)) u9000_ l0 from Kd.S_mono ho0 (fun k_ hk=>(.inl hk)))
 have HK:=m_ (Kept.refl w (fun k_=>P0_ k_))
 have HW0:=m_ hB.size
 have HB:=m_ hB
 clear hB
 unfold laws_markInodeS.f at h
 have H:=h
 clear h
 have H':=m_ H
 clear H
 go_enter Tryz.func37,Tryz.ntmps37
 go_wp2
 go_loopg [1,5] k (fun kq v1 v5 w'=>∃ (a6:List (S62)) (a8:Int) (a5:Int),v1=.int .i64 a8∧v5=.int .i64 a5∧Aside0 (laws_markInodeS.l0 kq a6 a8 a5=some (r1,r2))∧Aside0 (kq≤k)∧Aside0 (Kd.S k62 62 w' w0.heap.size (fun k_=>(P0_ k_∨w.heap.size≤k_)) u9000_ a6)∧Aside0 (Kept w w' (fun k_=>P0_ k_))∧Aside0 (Below w0.heap.size w0 w'))
 case atStart=>exact ⟨(l0),(a1),(0),tq_3,tq_3,H',⟨Nat.le_refl _⟩,⟨(raS_ eh)⟩,⟨tq_6⟩,⟨th_⟩⟩
 case round =>
 clear H'
 try clear p2
 obtain ⟨a6,a8,a5,rfl,rfl,HA,HK1,HO_0,HK,HB⟩:=hrel
 cases gk with
 | zero=>exact absurd HA.out (by simp [laws_markInodeS.l0])
 | succ k1 =>
 have H:=HA.out
 clear HA
 simp only [laws_markInodeS.l0] at H
 have d7:=m_ H
 clear H
 obtain ⟨er,aq,ei⟩:=Kd.S_slice HO_0.out
 subst ei
 go_upto_if 9 with (fail)
 have H:=d7.out
 clear d7
 by_cases c5:a5 < (a6.length:Int)
 rotate_left
 ·rw [if_neg c5] at H
  have ao:=df_ c5
  clear c5
  (first|rw [ao]|(simp only [i64_w,i32_w];rw [ao])|skip)
  simp only [Option.some.injEq,Prod.mk.injEq] at H
  obtain ⟨rfl,rfl⟩:=H
  go_wp2
  go_ret
  exact ⟨tq_1,(raS_ HO_0),th_,tq_6⟩
 rw [if_pos c5] at H
 have ao:=de_ c5
 clear c5
 (first|rw [ao]|(simp only [i64_w,i32_w];rw [ao])|skip)
 obtain ⟨c6,H⟩:=fc_ H
 have ej:=de_ c6
 clear c6
 obtain ⟨a9,bb,H⟩:=bs_ H
 obtain ⟨aa,bc,H⟩:=bs_ H
 obtain ⟨ab,bd,H⟩:=bs_ H
 obtain ⟨ap,ek,H⟩:=bd_ H
 obtain ⟨be,bf,H⟩:=bs_ H
 obtain ⟨⟨tr1_,tr2_⟩,AR_,H⟩:=bd_ H
 try dsimp -simprocs only at H
 obtain ⟨yb_,Nyb_,H⟩:=bs_ H
 obtain ⟨⟨te1_,te2_⟩,AE_,H⟩:=bd_ H
 try dsimp -simprocs only at H
 obtain ⟨yc_,Nyc_,H⟩:=bs_ H
 have H':=m_ H
 clear H
 have p7:0≤(a5:Int):=od_ tq_2
 have q7:(a5:Int) < ((a6.length:Int):Int):=od_ tq_2
 obtain ⟨a7,es,d8,d9,el,et,da⟩:=Kd.S_form HO_0.out (by omega)
 (first|cases d8|(injection d8 with ea_ en_ ec_;(first|subst ea_|(injection ea_ with ea_;subst ea_));subst ec_;clear en_))
 have ca:=m_ d9
 have eu:=m_ da
 clear d9 el da
 have HMgo7:=m_ (show (P0_ a7∨w.heap.size≤a7) from ((Kd.S_R HO_0.out).1 _ rfl))
 obtain ⟨_,ev,cb,db,ah,ai,_,_⟩:=Kd.S_elem HO_0.out z62 (a5:Int) p7 q7
 obtain ⟨bg,bh,rfl,ge7_4,ge7_5⟩:=k62_openM db
 have dc:wr.cell? ⟨a7,(a5:Int).toNat * 6,none⟩=some (.int .i64 ((rd_T62 a6 a5).f0)):=ah 0 _ rfl
 have dd:wr.cell? ⟨a7,(a5:Int).toNat * 6+1,none⟩=some (.int .i64 ((rd_T62 a6 a5).f1)):=ah 1 _ rfl
 have de:wr.cell? ⟨a7,(a5:Int).toNat * 6+2,none⟩=some (.int .i64 ((rd_T62 a6 a5).f2)):=ah 2 _ rfl
 have df:wr.cell? ⟨a7,(a5:Int).toNat * 6+3,none⟩=some (.string ((rd_T62 a6 a5).f3)):=ah 3 _ rfl
 have dg:wr.cell? ⟨a7,(a5:Int).toNat * 6+4,none⟩=some (bg):=ah 4 _ rfl
 have dh:wr.cell? ⟨a7,(a5:Int).toNat * 6+5,none⟩=some (bh):=ah 5 _ rfl
 have di:wr.frozen? ⟨a7,(a5:Int).toNat * 6,none⟩=false:=ai 0
 have dj:wr.frozen? ⟨a7,(a5:Int).toNat * 6+1,none⟩=false:=ai 1
 have dk:wr.frozen? ⟨a7,(a5:Int).toNat * 6+2,none⟩=false:=ai 2
 have dl:wr.frozen? ⟨a7,(a5:Int).toNat * 6+3,none⟩=false:=ai 3
 have dm:wr.frozen? ⟨a7,(a5:Int).toNat * 6+4,none⟩=false:=ai 4
 have dn:wr.frozen? ⟨a7,(a5:Int).toNat * 6+5,none⟩=false:=ai 5
 clear cb ah ai db
 replace p7:=eq_true p7
 replace q7:=eq_true q7
 have cc:=m_ (show Kd.S k62 62 wr w0.heap.size (fun k_=>((fun k_=>(P0_ k_∨w.heap.size≤k_))) k_∧¬ ((fun _=>False)) k_) (.slice (some ⟨a7,0,none⟩) a6.length aq) a6 from tq_50)
 obtain ⟨oki12,em,bi,bj,ar,au,hoki12,hH12⟩:=Kd.S_elem cc.out z62 (a5:Int) (od_ tq_2) (by have h_:(a5:Int) < ((a6.length:Int):Int):=od_ tq_2;first|exact h_|(have e_:=(Kd.S_reads' HO_0.out).1;omega)|simpa using h_)
 obtain ⟨cd,ce,rfl,ge12_4,ge12_5⟩:=k62_openM bj
 have HP12:=Kd.S_seg hH12 (od_ tq_2) (by have h_:(a5:Int) < ((a6.length:Int):Int):=od_ tq_2;first|exact h_|(have e_:=(Kd.S_reads' HO_0.out).1;omega)|simpa using h_) (seg:=[.int .i64 a8]) (j:=0) (show 1≤6 from by decide) (x':=(⟨a8,(rd_T62 a6 a5).f1,(rd_T62 a6 a5).f2,(rd_T62 a6 a5).f3,(rd_T62 a6 a5).f4,(rd_T62 a6 a5).f5⟩:S62)) (k62_mkM _ _ _ (⟨a8,(rd_T62 a6 a5).f1,(rd_T62 a6 a5).f2,(rd_T62 a6 a5).f3,(rd_T62 a6 a5).f4,(rd_T62 a6 a5).f5⟩:S62) (Kd.R_mono ge12_4 (fun _ h_=>Or.inl h_)) (Kd.R_mono ge12_5 (fun _ h_=>Or.inl h_))) (fun _ hk=>hk) (fun k_ hk_=>hk_.elim)
 have b1:=ar 0 _ rfl
 (try simp only [show (k62).sz=6 from rfl,Nat.mul_one,Nat.add_zero] at b1)
 have b2:=au 0
 (try simp only [show (k62).sz=6 from rfl,Nat.mul_one,Nat.add_zero] at b2)
 clear bi ar au bj hoki12 hH12
 go_wp2_with (first|((with_reducible refine gate_store (t:=3) (p:=16) rfl ?_);refine store_event (t:=3) (p:=16) (v:=?vo_w13) (w1:=(wr.setCell ⟨a7,(a5:Int).toNat * 6,none⟩ (.int .i64 a8))) ?hg ?ho ?hn ?hr ?_;(case ho=>rfl);(case hg=>rfl);(case hn=>rfl);(case hr=>first|(go_simp;done)|(go_simp;rfl));intro af hw;have hg:wr.grownBy af (some a7):=(by rw [hw];exact HP12.2);have hp_:Kd.S k62 62 af w0.heap.size (fun k_=>(P0_ k_∨w.heap.size≤k_)) (.slice (some ⟨a7,0,none⟩) a6.length aq) a9:=(by rw [hw,bb.out];exact HP12.1);clear HP12;have z_:=p_ (hp_) <| p_ ((by rw [hw];exact below_set (HB.out) ca.out:Below w0.heap.size w0 af)) <| a_ (Kept.of_grown (S:=(fun k_=>P0_ k_)) hg tq_6 (fun k_ e_=>((Kd.S_R HO_0.out).1 k_ e_)));clear HO_0 HB HK;obtain ⟨HO_0,HB,HK⟩:=z_;clear hg hw hp_;have p8:0≤(a5:Int):=od_ tq_2;have q8:(a5:Int) < ((a6.length:Int):Int):=od_ tq_2;obtain ⟨_,ew,cf,dp,aj,ak,_,_⟩:=Kd.S_elem HO_0.out z62 (a5:Int) p8 q8;obtain ⟨bl,bm,rfl,ge8_4,ge8_5⟩:=k62_openM dp;have dq:af.cell? ⟨a7,(a5:Int).toNat * 6,none⟩=some (.int .i64 ((rd_T62 a9 a5).f0)):=aj 0 _ rfl;have dr:af.cell? ⟨a7,(a5:Int).toNat * 6+1,none⟩=some (.int .i64 ((rd_T62 a9 a5).f1)):=aj 1 _ rfl;have dt:af.cell? ⟨a7,(a5:Int).toNat * 6+2,none⟩=some (.int .i64 ((rd_T62 a9 a5).f2)):=aj 2 _ rfl;have du:af.cell? ⟨a7,(a5:Int).toNat * 6+3,none⟩=some (.string ((rd_T62 a9 a5).f3)):=aj 3 _ rfl;have dv:af.cell? ⟨a7,(a5:Int).toNat * 6+4,none⟩=some (bl):=aj 4 _ rfl;have dw:af.cell? ⟨a7,(a5:Int).toNat * 6+5,none⟩=some (bm):=aj 5 _ rfl;have dx:af.frozen? ⟨a7,(a5:Int).toNat * 6,none⟩=false:=ak 0;have dy:af.frozen? ⟨a7,(a5:Int).toNat * 6+1,none⟩=false:=ak 1;have dz:af.frozen? ⟨a7,(a5:Int).toNat * 6+2,none⟩=false:=ak 2;have e0:af.frozen? ⟨a7,(a5:Int).toNat * 6+3,none⟩=false:=ak 3;have e1:af.frozen? ⟨a7,(a5:Int).toNat * 6+4,none⟩=false:=ak 4;have e2:af.frozen? ⟨a7,(a5:Int).toNat * 6+5,none⟩=false:=ak 5;clear cf aj ak dp;replace p8:=eq_true p8;replace q8:=eq_true q8;have cg:=m_ (show Kd.S k62 62 af w0.heap.size (fun k_=>((fun k_=>(P0_ k_∨w.heap.size≤k_))) k_∧¬ ((fun _=>False)) k_) (.slice (some ⟨a7,0,none⟩) a6.length aq) a9 from tq_50);obtain ⟨oki14,en,bn,bo,av,aw,hoki14,hH14⟩:=Kd.S_elem cg.out z62 (a5:Int) (od_ tq_2) (by have h_:(a5:Int) < ((a6.length:Int):Int):=od_ tq_2;first|exact h_|(have e_:=(Kd.S_reads' HO_0.out).1;omega)|simpa using h_);obtain ⟨ch,ci,rfl,ge14_4,ge14_5⟩:=k62_openM bo;have HP14:=Kd.S_seg hH14 (od_ tq_2) (by have h_:(a5:Int) < ((a6.length:Int):Int):=od_ tq_2;first|exact h_|(have e_:=(Kd.S_reads' HO_0.out).1;omega)|simpa using h_) (seg:=[.int .i64 (wrap64 (a8+1))]) (j:=1) (show 2≤6 from by decide) (x':=(⟨(rd_T62 a9 a5).f0,wrap64 (a8+1),(rd_T62 a9 a5).f2,(rd_T62 a9 a5).f3,(rd_T62 a9 a5).f4,(rd_T62 a9 a5).f5⟩:S62)) (k62_mkM _ _ _ (⟨(rd_T62 a9 a5).f0,wrap64 (a8+1),(rd_T62 a9 a5).f2,(rd_T62 a9 a5).f3,(rd_T62 a9 a5).f4,(rd_T62 a9 a5).f5⟩:S62) (Kd.R_mono ge14_4 (fun _ h_=>Or.inl h_)) (Kd.R_mono ge14_5 (fun _ h_=>Or.inl h_))) (fun _ hk=>hk) (fun k_ hk_=>hk_.elim);have b3:=av 1 _ rfl;(try simp only [show (k62).sz=6 from rfl,Nat.mul_one,Nat.add_zero] at b3);have b4:=aw 1;(try simp only [show (k62).sz=6 from rfl,Nat.mul_one,Nat.add_zero] at b4);clear bn av aw bo hoki14 hH14)|((with_reducible refine gate_store (t:=3) (p:=23) rfl ?_);refine store_event (t:=3) (p:=23) (v:=?vo_w15) (w1:=(af.setCell ⟨a7,(a5:Int).toNat * 6+1,none⟩ (.int .i64 (wrap64 (a8+1))))) ?hg ?ho ?hn ?hr ?_;(case ho=>rfl);(case hg=>rfl);(case hn=>rfl);(case hr=>first|(go_simp;done)|(go_simp;rfl));intro ag hw;have hg:af.grownBy ag (some a7):=(by rw [hw];exact HP14.2);have hp_:Kd.S k62 62 ag w0.heap.size (fun k_=>(P0_ k_∨w.heap.size≤k_)) (.slice (some ⟨a7,0,none⟩) a6.length aq) aa:=(by rw [hw,bc.out];exact HP14.1);clear HP14;have z_:=p_ (hp_) <| p_ ((by rw [hw];exact below_set (HB.out) ca.out:Below w0.heap.size w0 ag)) <| a_ (Kept.of_grown (S:=(fun k_=>P0_ k_)) hg tq_6 (fun k_ e_=>((Kd.S_R HO_0.out).1 k_ e_)));clear HO_0 HB HK;obtain ⟨HO_0,HB,HK⟩:=z_;clear hg hw hp_;have p9:0≤(a5:Int):=od_ tq_2;have q9:(a5:Int) < ((a6.length:Int):Int):=od_ tq_2;obtain ⟨_,ex,cj,e3,al,am,_,_⟩:=Kd.S_elem HO_0.out z62 (a5:Int) p9 q9;obtain ⟨bp,bq,rfl,ge9_4,ge9_5⟩:=k62_openM e3;have e4:ag.cell? ⟨a7,(a5:Int).toNat * 6,none⟩=some (.int .i64 ((rd_T62 aa a5).f0)):=al 0 _ rfl;have e5:ag.cell? ⟨a7,(a5:Int).toNat * 6+1,none⟩=some (.int .i64 ((rd_T62 aa a5).f1)):=al 1 _ rfl;have e6:ag.cell? ⟨a7,(a5:Int).toNat * 6+2,none⟩=some (.int .i64 ((rd_T62 aa a5).f2)):=al 2 _ rfl;have e7:ag.cell? ⟨a7,(a5:Int).toNat * 6+3,none⟩=some (.string ((rd_T62 aa a5).f3)):=al 3 _ rfl;have e8:ag.cell? ⟨a7,(a5:Int).toNat * 6+4,none⟩=some (bp):=al 4 _ rfl;have e9:ag.cell? ⟨a7,(a5:Int).toNat * 6+5,none⟩=some (bq):=al 5 _ rfl;have ea:ag.frozen? ⟨a7,(a5:Int).toNat * 6,none⟩=false:=am 0;have eb:ag.frozen? ⟨a7,(a5:Int).toNat * 6+1,none⟩=false:=am 1;have ec:ag.frozen? ⟨a7,(a5:Int).toNat * 6+2,none⟩=false:=am 2;have ed:ag.frozen? ⟨a7,(a5:Int).toNat * 6+3,none⟩=false:=am 3;have ee:ag.frozen? ⟨a7,(a5:Int).toNat * 6+4,none⟩=false:=am 4;have ef:ag.frozen? ⟨a7,(a5:Int).toNat * 6+5,none⟩=false:=am 5;clear cj al am e3;replace p9:=eq_true p9;replace q9:=eq_true q9;have ck:=m_ (show Kd.S k62 62 ag w0.heap.size (fun k_=>((fun k_=>(P0_ k_∨w.heap.size≤k_))) k_∧¬ ((fun _=>False)) k_) (.slice (some ⟨a7,0,none⟩) a6.length aq) aa from tq_50);obtain ⟨oki16,eo,br,bs,ax,ay,hoki16,hH16⟩:=Kd.S_elem ck.out z62 (a5:Int) (od_ tq_2) (by have h_:(a5:Int) < ((a6.length:Int):Int):=od_ tq_2;first|exact h_|(have e_:=(Kd.S_reads' HO_0.out).1;omega)|simpa using h_);obtain ⟨cl,cm,rfl,ge16_4,ge16_5⟩:=k62_openM bs;have HP16:=Kd.S_seg hH16 (od_ tq_2) (by have h_:(a5:Int) < ((a6.length:Int):Int):=od_ tq_2;first|exact h_|(have e_:=(Kd.S_reads' HO_0.out).1;omega)|simpa using h_) (seg:=[.int .i64 (wrap64 ((wrap64 (a8+1))+1))]) (j:=2) (show 3≤6 from by decide) (x':=(⟨(rd_T62 aa a5).f0,(rd_T62 aa a5).f1,wrap64 ((wrap64 (a8+1))+1),(rd_T62 aa a5).f3,(rd_T62 aa a5).f4,(rd_T62 aa a5).f5⟩:S62)) (k62_mkM _ _ _ (⟨(rd_T62 aa a5).f0,(rd_T62 aa a5).f1,wrap64 ((wrap64 (a8+1))+1),(rd_T62 aa a5).f3,(rd_T62 aa a5).f4,(rd_T62 aa a5).f5⟩:S62) (Kd.R_mono ge16_4 (fun _ h_=>Or.inl h_)) (Kd.R_mono ge16_5 (fun _ h_=>Or.inl h_))) (fun _ hk=>hk) (fun k_ hk_=>hk_.elim);have b5:=ax 2 _ rfl;(try simp only [show (k62).sz=6 from rfl,Nat.mul_one,Nat.add_zero] at b5);have b6:=ay 2;(try simp only [show (k62).sz=6 from rfl,Nat.mul_one,Nat.add_zero] at b6);clear br ax ay bs hoki16 hH16)|((with_reducible refine gate_store (t:=3) (p:=30) rfl ?_);refine store_event (t:=3) (p:=30) (v:=?vo_w17) (w1:=(ag.setCell ⟨a7,(a5:Int).toNat * 6+2,none⟩ (.int .i64 (wrap64 ((wrap64 (a8+1))+1))))) ?hg ?ho ?hn ?hr ?_;(case ho=>rfl);(case hg=>rfl);(case hn=>rfl);(case hr=>first|(go_simp;done)|(go_simp;rfl));intro cn hw;have hg:ag.grownBy cn (some a7):=(by rw [hw];exact HP16.2);have hp_:Kd.S k62 62 cn w0.heap.size (fun k_=>(P0_ k_∨w.heap.size≤k_)) (.slice (some ⟨a7,0,none⟩) a6.length aq) ab:=(by rw [hw,bd.out];exact HP16.1);clear HP16;have z_:=p_ (hp_) <| p_ ((by rw [hw];exact below_set (HB.out) ca.out:Below w0.heap.size w0 cn)) <| a_ (Kept.of_grown (S:=(fun k_=>P0_ k_)) hg tq_6 (fun k_ e_=>((Kd.S_R HO_0.out).1 k_ e_)));clear HO_0 HB HK;obtain ⟨HO_0,HB,HK⟩:=z_;clear hg hw hp_)|((with_reducible refine gate_callee (f:=68) rfl ?_);refine goesL_ (some 36) rfl rfl Tryz.func68 kr_ rfl #[.int .i64 (wrap64 ((wrap64 ((wrap64 (a8+1))+1))+1))] rfl tq_0 ?_;(with_reducible refine (laws_markText.calls k1 (wrap64 ((wrap64 ((wrap64 (a8+1))+1))+1)) ap _ ek.out).mono ?_);rintro e an ⟨rfl,hb⟩;refine ⟨_,rfl,?_⟩;have z_:=p_ (Kd.S_below (raS_ HO_0) hb) <| p_ (Kept.below (S:=(fun k_=>P0_ k_)) tq_6 hb) <| a_ (below_step th_ hb);clear HO_0 HK HB;obtain ⟨HO_0,HK,HB⟩:=z_;(try clear hb);(try clear hk);have co:0≤(a5:Int):=od_ tq_2;have cp:(a5:Int) < ((a6.length:Int):Int):=od_ tq_2;obtain ⟨_,ep,bu,bv,ac,ae,_,_⟩:=Kd.S_elem HO_0.out z62 (a5:Int) co cp;obtain ⟨b7,b8,rfl,ge11_4,ge11_5⟩:=k62_openM bv;have cq:an.cell? ⟨a7,(a5:Int).toNat * 6,none⟩=some (.int .i64 ((rd_T62 ab a5).f0)):=ac 0 _ rfl;have cr:an.cell? ⟨a7,(a5:Int).toNat * 6+1,none⟩=some (.int .i64 ((rd_T62 ab a5).f1)):=ac 1 _ rfl;have ct:an.cell? ⟨a7,(a5:Int).toNat * 6+2,none⟩=some (.int .i64 ((rd_T62 ab a5).f2)):=ac 2 _ rfl;have cu:an.cell? ⟨a7,(a5:Int).toNat * 6+3,none⟩=some (.string ((rd_T62 ab a5).f3)):=ac 3 _ rfl;have cv:an.cell? ⟨a7,(a5:Int).toNat * 6+4,none⟩=some (b7):=ac 4 _ rfl;have cw:an.cell? ⟨a7,(a5:Int).toNat * 6+5,none⟩=some (b8):=ac 5 _ rfl;have cx:an.frozen? ⟨a7,(a5:Int).toNat * 6,none⟩=false:=ae 0;have cy:an.frozen? ⟨a7,(a5:Int).toNat * 6+1,none⟩=false:=ae 1;have cz:an.frozen? ⟨a7,(a5:Int).toNat * 6+2,none⟩=false:=ae 2;have d0:an.frozen? ⟨a7,(a5:Int).toNat * 6+3,none⟩=false:=ae 3;have d1:an.frozen? ⟨a7,(a5:Int).toNat * 6+4,none⟩=false:=ae 4;have d2:an.frozen? ⟨a7,(a5:Int).toNat * 6+5,none⟩=false:=ae 5;clear bu ac ae bv;replace co:=eq_true co;replace cp:=eq_true cp;have d3:=m_ (show Kd.S k62 62 an w0.heap.size (fun k_=>((fun k_=>(P0_ k_∨w.heap.size≤k_))) k_∧¬ ((fun _=>False)) k_) (.slice (some ⟨a7,0,none⟩) a6.length aq) ab from tq_50);obtain ⟨oki19,eq,bw,bx,az,b0,hoki19,hH19⟩:=Kd.S_elem d3.out z62 (a5:Int) (od_ tq_2) (by have h_:(a5:Int) < ((a6.length:Int):Int):=od_ tq_2;first|exact h_|(have e_:=(Kd.S_reads' HO_0.out).1;omega)|simpa using h_);obtain ⟨d4,d5,rfl,ge19_4,ge19_5⟩:=k62_openM bx;have HP19:=Kd.S_seg hH19 (od_ tq_2) (by have h_:(a5:Int) < ((a6.length:Int):Int):=od_ tq_2;first|exact h_|(have e_:=(Kd.S_reads' HO_0.out).1;omega)|simpa using h_) (seg:=[.string ap]) (j:=3) (show 4≤6 from by decide) (x':=(⟨(rd_T62 ab a5).f0,(rd_T62 ab a5).f1,(rd_T62 ab a5).f2,ap,(rd_T62 ab a5).f4,(rd_T62 ab a5).f5⟩:S62)) (k62_mkM _ _ _ (⟨(rd_T62 ab a5).f0,(rd_T62 ab a5).f1,(rd_T62 ab a5).f2,ap,(rd_T62 ab a5).f4,(rd_T62 ab a5).f5⟩:S62) (Kd.R_mono ge19_4 (fun _ h_=>Or.inl h_)) (Kd.R_mono ge19_5 (fun _ h_=>Or.inl h_))) (fun _ hk=>hk) (fun k_ hk_=>hk_.elim);have b9:=az 3 _ rfl;(try simp only [show (k62).sz=6 from rfl,Nat.mul_one,Nat.add_zero] at b9);have ba:=b0 3;(try simp only [show (k62).sz=6 from rfl,Nat.mul_one,Nat.add_zero] at ba);clear bw az b0 bx hoki19 hH19)|((with_reducible refine gate_store (t:=9) (p:=38) rfl ?_);refine store_event (t:=9) (p:=38) (v:=?vo_w20) (w1:=(an.setCell ⟨a7,(a5:Int).toNat * 6+3,none⟩ (.string ap))) ?hg ?ho ?hn ?hr ?_;(case ho=>rfl);(case hg=>rfl);(case hn=>rfl);(case hr=>first|(go_simp;done)|(go_simp;rfl));intro d6 hw;have hg:an.grownBy d6 (some a7):=(by rw [hw];exact HP19.2);have hp_:Kd.S k62 62 d6 w0.heap.size (fun k_=>(P0_ k_∨w.heap.size≤k_)) (.slice (some ⟨a7,0,none⟩) a6.length aq) be:=(by rw [hw,bf.out];exact HP19.1);clear HP19;have z_:=p_ (hp_) <| p_ ((by rw [hw];exact below_set (HB.out) ca.out:Below w0.heap.size w0 d6)) <| a_ (Kept.of_grown (S:=(fun k_=>P0_ k_)) hg tq_6 (fun k_ e_=>((Kd.S_R HO_0.out).1 k_ e_)));clear HO_0 HB HK;obtain ⟨HO_0,HB,HK⟩:=z_;clear hg hw hp_;obtain ⟨vr_,vs_,hxr_,hxs_,hlr_,_⟩:=mi_lend HO_0.out HK.out (i:=a5) (od_ tq_2) (od_ tq_2);have HLr_:=m_ hlr_;clear hlr_)|((with_reducible refine gate_callee (f:=69) rfl ?_);refine goesL_ (some 47) rfl rfl Tryz.func69 kr_ rfl #[vr_,.int .i64 (wrap64 ((wrap64 ((wrap64 ((wrap64 (a8+1))+1))+1))+1))] rfl tq_0 ?_;(with_reducible refine (laws_markRecS.calls k1 (fun k_=>some k_=vr_.ownBlock) vr_ ((rd_T62 be a5).f4) (wrap64 ((wrap64 ((wrap64 ((wrap64 (a8+1))+1))+1))+1)) tr1_ tr2_ w0 _ ?side1 ?side2 AR_.out).mono ?_);(case side1=>exact HB.out);(case side2=>exact HLr_.out.1);rintro e wr_ ⟨rfl,bz,hb,hkp⟩;refine ⟨_,rfl,?_⟩;obtain ⟨hS_,hK_⟩:=HLr_.out.2 _ _ hkp bz;rw [← Nyb_.out] at hS_;clear HO_0 HK HB;have HO_0:=m_ hS_;have HK:=m_ hK_;have HB:=m_ hb;clear hS_ hK_ hb hkp bz;clear HLr_ hxr_ hxs_;obtain ⟨vt_,vu_,hxt_,hxu_,_,hle_⟩:=mi_lend HO_0.out HK.out (i:=a5) (od_ tq_2) (od_ tq_2);have HLe_:=m_ hle_;clear hle_)|((with_reducible refine gate_callee (f:=70) rfl ?_);refine goesL_ (some 54) rfl rfl Tryz.func70 kr_ rfl #[vu_,.int .i64 tr1_] rfl tq_0 ?_;(with_reducible refine (laws_markEntryS.calls k1 (fun k_=>some k_=vu_.ownBlock) vu_ ((rd_T62 yb_ a5).f5) tr1_ te1_ te2_ w0 _ ?side1 ?side2 AE_.out).mono ?_);(case side1=>exact HB.out);(case side2=>exact HLe_.out.1);rintro e we_ ⟨rfl,bz,hb,hkp⟩;refine ⟨_,rfl,?_⟩;obtain ⟨hS_,hK_⟩:=HLe_.out.2 _ _ hkp bz;rw [← Nyc_.out] at hS_;clear HO_0 HK HB;have HO_0:=m_ hS_;have HK:=m_ hK_;have HB:=m_ hb;clear hS_ hK_ hb hkp bz;clear HLe_ hxt_ hxu_))
 go_roundg k1
 case measure=>have:=HK1.out;omega
 case rel=>exact ⟨(yc_),te1_,(wrap64 (a5+1)),tq_3,tq_3,H',⟨tq_14⟩,⟨(raS_ HO_0)⟩,⟨tq_6⟩,⟨th_⟩⟩

def laws_markPart.f (k:Nat) (a9:Int) (a7:List Int) (a8:List (S62)) (a1:Int):Option (Int × List Int × (List (S62))):=(laws_markIntS.f k a7 a1).bind fun a5=>((laws_markInodeS.f k a8 a5.1).bind fun a6=>(some (a6.1,a5.2,a6.2)))
theorem laws_markPart.calls (k:Nat) (a9:Int) (P0_1_:Nat→Prop) (u9000_:Value) (a6:List Int) (P0_2_:Nat→Prop) (u9001_:Value) (a7:List (S62)) (a1:Int) (r1:Int) (r2:List Int) (r3:List (S62)) (w0 w:World) (hB:Below w0.heap.size w0 w) (ho0_1:Kd.R (Kd.int .i64) 3 w w0.heap.size P0_1_ u9000_ a6) (ho0_2:Kd.S k62 62 w w0.heap.size P0_2_ u9001_ a7) (h:laws_markPart.f k a9 a6 a7 a1=some (r1,r2,r3)) :
  Calls Tryz.prog 12 #[.agg #[.int .i64 a9,u9000_,u9001_],.int .i64 a1] w fun e w'=>e=.returned (.int .i64 r1)∧Kd.R (Kd.int .i64) 3 w' w0.heap.size (fun k_=>((P0_1_ k_∨P0_2_ k_)∨w.heap.size≤k_)) u9000_ r2∧Kd.S k62 62 w' w0.heap.size (fun k_=>((P0_1_ k_∨P0_2_ k_)∨w.heap.size≤k_)) u9001_ r3∧Below w0.heap.size w0 w'∧Kept w w' (fun k_=>P0_1_ k_∨P0_2_ k_):=by
 have hu31:=Tryz.underlying31
 have HO0_1:=m_ (show Kd.R (Kd.int .i64) 3 w w0.heap.size (fun k_=>((P0_1_ k_∨P0_2_ k_)∨w.heap.size≤k_)) u9000_ a6 from Kd.R_mono ho0_1 (fun k_ hk=>(.inl (.inl hk))))
 have HO0_2:=m_ (show Kd.S k62 62 w w0.heap.size (fun k_=>((P0_1_ k_∨P0_2_ k_)∨w.heap.size≤k_)) u9001_ a7 from Kd.S_mono ho0_2 (fun k_ hk=>(.inl (.inr hk))))
 have HK:=m_ (Kept.refl w (fun k_=>P0_1_ k_∨P0_2_ k_))
 have HW0:=m_ hB.size
 have HB:=m_ hB
 clear hB
 unfold laws_markPart.f at h
 have H:=h
 clear h
 obtain ⟨⟨aa,af⟩,A3,H⟩:=bd_ H
 try dsimp -simprocs only at H
 obtain ⟨⟨ag,ah⟩,A4,H⟩:=bd_ H
 try dsimp -simprocs only at H
 simp only [Option.some.injEq,Prod.mk.injEq] at H
 obtain ⟨rfl,rfl,rfl⟩:=H
 obtain ⟨ac,ae,ak⟩:=Kd.R_slice HO0_1.out
 subst ak
 obtain ⟨ai,aj,al⟩:=Kd.S_slice HO0_2.out
 subst al
 go_enter Tryz.func12,Tryz.ntmps12
 go_wp2_with (first|((with_reducible refine gate_dst (N:=2) rfl ?_);refine be_ 2 (cs:=#[.int .i64 a9,.slice ac a6.length ae,.slice ai a7.length aj]) 31 ?_;intro a8 hg w7 hbox hb;have z_:=p_ (Kd.R_below (raR_ HO0_1) hb) <| p_ (Kd.S_below (raS_ HO0_2) hb) <| p_ (Kept.below (S:=(fun k_=>P0_1_ k_∨P0_2_ k_)) tq_6 hb) <| p_ (below_step th_ hb) <| p_ (hbox) <| p_ ((by rw [hg];exact (by first|exact HK.out.1|exact (show Kept w _ (fun k_=>P0_1_ k_∨P0_2_ k_) from tq_6).1):w.heap.size≤a8)) <| a_ ((by rw [hg];exact (below_size th_):w0.heap.size≤a8));clear HO0_1 HO0_2 HK HB;obtain ⟨HO0_1,HO0_2,HK,HB,a5,GW707,GE707⟩:=z_;clear hb hbox hg;have an:=bb3_ a5.out)|((with_reducible refine gate_callee (f:=36) rfl ?_);refine goesL_ (some 8) rfl rfl Tryz.func36 kr_ rfl #[.slice ac a6.length ae,.int .i64 a1] rfl tq_0 ?_;(with_reducible refine (laws_markIntS.calls k (fun k_=>some k_=(.slice ac a6.length ae:Value).ownBlock) (.slice ac a6.length ae) a6 a1 aa af w0 _ ?side1 ?side2 A3.out).mono ?_);(case side1=>exact tq_105);(case side2=>exact Kd.R_tight rfl HO0_1.out);rintro e w9 ⟨rfl,ab,hb,hkp⟩;refine ⟨_,rfl,?_⟩;have z_:=p_ (Kd.R_reok rfl ab (fun k_ e_=>HO0_1.out.1 k_ e_)) <| p_ (Kd.S_mono (ok':=fun k_=>((P0_1_ k_∨P0_2_ k_)∨w.heap.size≤k_)) (Kd.S_keptB ((Kd.S_apart' HO0_2.out (Kd.R_typed HO0_1.out) (by decide))) hkp (fun k_ hk_ hs_=>(hk_.2) hs_)) (fun k_ hk_=>hk_.1.1)) <| p_ (blk_kept (kb_ a5) hkp (fun hs_=>(fun e_=>(Kd.R_ne HO0_1.out a5.out (by decide)) e_) hs_)) <| p_ (Kept.then_ (S:=(fun k_=>P0_1_ k_∨P0_2_ k_)) tq_61 hkp (fun k_ hs_=>(fun e_=>(HO0_1.out.1 k_ e_.symm)) hs_)) <| a_ (hb);clear HO0_1 HO0_2 a5 HK HB;obtain ⟨HO0_1,HO0_2,a5,HK,HB⟩:=z_;(try clear hb);(try clear hkp);(try clear ab);have am:=bb3_ a5.out)|((with_reducible refine gate_callee (f:=37) rfl ?_);refine goesL_ (some 12) rfl rfl Tryz.func37 kr_ rfl #[.slice ai a7.length aj,.int .i64 aa] rfl tq_0 ?_;(with_reducible refine (laws_markInodeS.calls k ?pp_ (.slice ai a7.length aj) a7 aa ag ah w0 _ ?side1 ?side2 A4.out).mono ?_);(case side1=>exact tq_105);(case side2=>exact Kd.S_bound HO0_2.out);rintro e ao ⟨rfl,ab,hb,hkp⟩;refine ⟨_,rfl,?_⟩;have z_:=p_ (Kd.R_mono (ok':=fun k_=>((P0_1_ k_∨P0_2_ k_)∨w.heap.size≤k_)) (R_keptT rfl HO0_1.out hkp (fun k_ e_ hs_=>by obtain ⟨c_,hc_⟩:=Kd.R_typed HO0_1.out k_ e_.symm;exact ty_no hc_ (by decide) hs_.2.2.2)) (fun k_ hk_=>by first|exact hk_|exact hk_.1)) <| p_ (Kd.S_mono ab (fun k_ hk_=>hk_.elim (fun h_=>h_.1) (fun h_=>.inr (Nat.le_trans HK.out.1 h_)))) <| p_ (blk_kept (kb_ a5) hkp (fun hs_=>ty_no a5.out (by decide) hs_.2.2.2)) <| p_ (Kept.then_ (S:=(fun k_=>P0_1_ k_∨P0_2_ k_)) tq_61 hkp (fun k_ hs_=>hs_.1)) <| a_ (hb);clear HO0_1 HO0_2 a5 HK HB;obtain ⟨HO0_1,HO0_2,a5,HK,HB⟩:=z_;(try clear hb);(try clear hkp);(try clear ab)))
 go_ret
 exact ⟨tq_1,(raR_ HO0_1),(raS_ HO0_2),th_,tq_61⟩

def laws_heldIntS.l0:Nat→List Int→Int→Int→Option (Int)
 | 0,_,_,_=>none
 | k+1,x0,x1,x5=>if x5 < (x0.length:Int) then (if 0≤x5 then (if (rd x0 x5)=x1 then (laws_heldIntS.l0 k x0 (wrap64 (x1+1)) (wrap64 (x5+1))) else (some (-1))) else (none)) else (some x1)
def laws_heldIntS.f (k:Nat) (l0:List Int) (a1:Int):Option (Int):=laws_heldIntS.l0 k l0 a1 0
theorem laws_heldIntS.calls (k:Nat) (A0:Option Addr) (c0:Nat) (l0:List Int) (a1:Int) (r:Int) (w:World) (hr0:Kd.C (Kd.int .i64) w A0 l0.length l0) (hc0:l0.length≤c0) (h:laws_heldIntS.f k l0 a1=some r) :
  Calls Tryz.prog 38 #[.slice A0 l0.length c0,.int .i64 a1] w fun e w'=>e=.returned (.int .i64 r)∧Drawn0 w w':=by
 have HR0:=m_ hr0
 have ai:=m_ hc0
 clear hr0 hc0
 unfold laws_heldIntS.f at h
 have H:=h
 clear h
 have H':=m_ H
 clear H
 go_enter Tryz.func38,Tryz.ntmps38
 go_wp2
 go_loopg [1,5] k (fun kq v1 v5 w'=>∃ (a6:Int) (a5:Int),v1=.int .i64 a6∧v5=.int .i64 a5∧Aside0 (laws_heldIntS.l0 kq l0 a6 a5=some r)∧Aside0 (kq≤k)∧Drawn0 w w')
 case atStart=>exact ⟨(a1),(0),tq_3,tq_3,H',⟨Nat.le_refl _⟩,tq_8⟩
 case round =>
 clear H'
 try clear p2
 obtain ⟨a6,a5,rfl,rfl,HA,HK1,⟨m1,rfl⟩⟩:=hrel
 cases gk with
 | zero=>exact absurd HA.out (by simp [laws_heldIntS.l0])
 | succ k1 =>
 have H:=HA.out
 clear HA
 simp only [laws_heldIntS.l0] at H
 by_cases c3:a5 < (l0.length:Int)
 rotate_left
 ·rw [if_neg c3] at H
  have ab:=df_ c3
  clear c3
  obtain rfl:=oi_ H
  go_wp2
  go_ret
  exact ⟨tq_3,tq_8⟩
 rw [if_pos c3] at H
 have ab:=de_ c3
 clear c3
 obtain ⟨c4,H⟩:=fc_ H
 have ah:=de_ c4
 clear c4
 have af:=m_ H
 clear H
 have a9:0≤(a5:Int):=od_ tq_2
 have aa:a5 < (l0.length:Int):=od_ tq_2
 obtain ⟨ag,ac,a8⟩:=Kd.at_int HR0.out a5 a9 aa
 cases ac
 replace a9:=eq_true a9
 replace aa:=eq_true aa
 go_upto_if 17 with (fail)
 (try clear a8)
 have H:=af.out
 clear af
 by_cases c6:(rd l0 a5)=a6
 rotate_left
 ·rw [if_neg c6] at H
  have a7:=qc_ c6
  have ae:=qd_ c6
  (first|rw [a7]|(simp only [i64_w,i32_w];rw [a7])|skip)
  obtain rfl:=oi_ H
  go_wp2
  go_ret
  exact ⟨tq_3,tq_8⟩
 rw [if_pos c6] at H
 have a7:=qa_ c6
 have ae:=qb_ c6
 clear c6
 (first|rw [a7]|(simp only [i64_w,i32_w];rw [a7])|skip)
 have H':=m_ H
 clear H
 go_wp2
 go_roundg k1
 case measure=>have:=HK1.out;omega
 case rel=>exact ⟨(wrap64 (a6+1)),(wrap64 (a5+1)),tq_3,tq_3,H',⟨tq_14⟩,tq_8⟩

def laws_heldRecS.l0:Nat→List (S86)→Int→Int→Option (Int)
 | 0,_,_,_=>none
 | k+1,x0,x1,x5=>if x5 < (x0.length:Int) then (if 0≤x5 then (if ((rd_T86 x0 x5).f0)=x1 then (if ((rd_T86 x0 x5).f1)=(wrap64 (x1+1)) then ((laws_markText.f k (wrap64 ((wrap64 (x1+1))+1))).bind fun a5=>(if ((rd_T86 x0 x5).f2).toList=a5.toList then (laws_heldRecS.l0 k x0 (wrap64 ((wrap64 ((wrap64 (x1+1))+1))+1)) (wrap64 (x5+1))) else (some (-1)))) else (some (-1))) else (some (-1))) else (none)) else (some x1)
def laws_heldRecS.f (k:Nat) (l0:List (S86)) (a1:Int):Option (Int):=laws_heldRecS.l0 k l0 a1 0
def laws_heldRecS.T10:Bool × List (List Nat × List Nat):=(true,[([],[]),([],[]),([0,1],[0,1]),([2],[2]),([3],[3]),([],[]),([5],[5]),([4,6],[4,6])])
def laws_heldRecS.B10:List Nat:=[0,0,3,7,15,0,32,127]
theorem laws_heldRecS.tab10:rtab .any (opsOf Tryz.f71 10)=laws_heldRecS.T10:=by kernel_rfl
theorem laws_heldRecS.bits10:waitsOk laws_heldRecS.T10.2 laws_heldRecS.B10=true:=by kernel_rfl
theorem laws_heldRecS.calls (k:Nat) (A0:Option Addr) (c0:Nat) (l0:List (S86)) (a1:Int) (r:Int) (w:World) (hr0:Kd.C k86 w A0 l0.length l0) (hc0:l0.length≤c0) (h:laws_heldRecS.f k l0 a1=some r) :
  Calls Tryz.prog 71 #[.slice A0 l0.length c0,.int .i64 a1] w fun e w'=>e=.returned (.int .i64 r)∧Below w.heap.size w w':=by
 have HR0:=m_ hr0
 have bb:=m_ hc0
 clear hr0 hc0
 have HB:=m_ (Below.refl w.heap.size w)
 unfold laws_heldRecS.f at h
 have H:=h
 clear h
 have H':=m_ H
 clear H
 go_enter Tryz.func71,Tryz.ntmps71
 go_wp2
 go_loopg [1,5] k (fun kq v1 v5 w'=>∃ (ak:Int) (a5:Int),v1=.int .i64 ak∧v5=.int .i64 a5∧Aside0 (laws_heldRecS.l0 kq l0 ak a5=some r)∧Aside0 (kq≤k)∧Aside0 (Below w.heap.size w w'))
 case atStart=>exact ⟨(a1),(0),tq_3,tq_3,H',⟨Nat.le_refl _⟩,⟨th_⟩⟩
 case round =>
 clear H'
 try clear p2
 obtain ⟨ak,a5,rfl,rfl,HA,HK1,HB⟩:=hrel
 cases gk with
 | zero=>exact absurd HA.out (by simp [laws_heldRecS.l0])
 | succ k1 =>
 have H:=HA.out
 clear HA
 simp only [laws_heldRecS.l0] at H
 by_cases c3:a5 < (l0.length:Int)
 rotate_left
 ·rw [if_neg c3] at H
  have b2:=df_ c3
  clear c3
  obtain rfl:=oi_ H
  go_wp2
  go_ret
  exact ⟨tq_1,th_⟩
 rw [if_pos c3] at H
 have b2:=de_ c3
 clear c3
 obtain ⟨c4,H⟩:=fc_ H
 have ba:=de_ c4
 clear c4
 have b8:=m_ H
 clear H
 have ao:0≤(a5:Int):=od_ tq_2
 have ap:a5 < (l0.length:Int):=od_ tq_2
 obtain ⟨ac,b3,ae,af,ag⟩:=at_T86 HR0.out a5 ao ap
 cases b3
 replace ae:=hx_ HB.out ae
 replace af:=hx_ HB.out af
 replace ag:=hx_ HB.out ag
 replace ao:=eq_true ao
 replace ap:=eq_true ap
 go_upto_if 18 with (fail)
 (try clear ae af ag)
 have H:=b8.out
 clear b8
 by_cases c6:((rd_T86 l0 a5).f0)=ak
 rotate_left
 ·rw [if_neg c6] at H
  have am:=qc_ c6
  have b4:=qd_ c6
  (first|rw [am]|(simp only [i64_w,i32_w];rw [am])|skip)
  obtain rfl:=oi_ H
  go_wp2
  go_ret
  exact ⟨tq_1,th_⟩
 rw [if_pos c6] at H
 have am:=qa_ c6
 have b4:=qb_ c6
 clear c6
 (first|rw [am]|(simp only [i64_w,i32_w];rw [am])|skip)
 have b9:=m_ H
 clear H
 have aq:0≤(a5:Int):=od_ tq_2
 have ar:a5 < (l0.length:Int):=od_ tq_2
 obtain ⟨ax,b5,ah,ai,aj⟩:=at_T86 HR0.out a5 aq ar
 obtain rfl:ac=ax:=(by injection b5)
 replace ah:=hx_ HB.out ah
 replace ai:=hx_ HB.out ai
 replace aj:=hx_ HB.out aj
 replace aq:=eq_true aq
 replace ar:=eq_true ar
 go_upto_if 27 with (fail)
 (try clear ah ai aj)
 have H:=b9.out
 clear b9
 by_cases c8:((rd_T86 l0 a5).f1)=(wrap64 (ak+1))
 rotate_left
 ·rw [if_neg c8] at H
  have an:=qc_ c8
  have b6:=qd_ c8
  (first|rw [an]|(simp only [i64_w,i32_w];rw [an])|skip)
  obtain rfl:=oi_ H
  go_wp2
  go_ret
  exact ⟨tq_1,th_⟩
 rw [if_pos c8] at H
 have an:=qa_ c8
 have b6:=qb_ c8
 clear c8
 (first|rw [an]|(simp only [i64_w,i32_w];rw [an])|skip)
 obtain ⟨ay,A9,H⟩:=bd_ H
 have az:=m_ H
 clear H
 try go_wp2
 have n0_:=m_ (below_drew1 HB.out)
 clear HB
 have HB:=n0_
 clear n0_
 have au:0≤(a5:Int):=od_ tq_2
 have av:a5 < (l0.length:Int):=od_ tq_2
 obtain ⟨b0,b7,a6,a7,a8⟩:=at_T86 HR0.out a5 au av
 have a9:=a8
 have aa:=a7
 have ab:=a6
 obtain rfl:ac=b0:=(by injection b7)
 replace a6:=hx_ HB.out a6
 replace a7:=hx_ HB.out a7
 replace a8:=hx_ HB.out a8
 replace au:=eq_true au
 replace av:=eq_true av
 refine start_ (n:=8) (S:=fun w'=>w'.cell? (ac.add ((a5).toNat * 3))=some (.int .i64 ((rd_T86 l0 a5).f0))∧w'.cell? ⟨(ac.add ((a5).toNat * 3)).block,(ac.add ((a5).toNat * 3)).off+1,none⟩=some (.int .i64 ((rd_T86 l0 a5).f1))∧w'.cell? ⟨(ac.add ((a5).toNat * 3)).block,(ac.add ((a5).toNat * 3)).off+2,none⟩=some (.string ((rd_T86 l0 a5).f2))) (ds:=[]) bq_3 kr_ rfl rfl ⟨((HB.out.cell (World.block_lt_of_cell? w _ ab)).trans ab),((HB.out.cell (World.block_lt_of_cell? w _ aa)).trans aa),((HB.out.cell (World.block_lt_of_cell? w _ a9)).trans a9)⟩ (fun hHeld=>?_);refine with_tabW laws_heldRecS.tab10 laws_heldRecS.bits10 (fun HT_ HW_=>?_)
 generalize wr.drew=bc at HB a6 a7 a8 hHeld ⊢
 refine yr_ 0 30 bq_4 HT_ ?_
 refine yr_ 1 31 bq_67 HT_ ?_
 refine yr_ 2 32 bq_68 HT_ ?_
 refine yr_ 3 33 bq_69 HT_ ?_
 refine yr_ 5 35 bq_204 HT_ ?_
 refine tr_ 4 34 bq_5 HT_ HW_ hHeld ?_
 refine one_ (i:=6) (N:=some 36) bq_6 rfl rfl (one_of HT_.out kr_) (by decide) (fun K hK=>?_)
 refine goes_ Tryz.func68 kr_ rfl #[.int .i64 (wrap64 ((wrap64 (ak+1))+1))] (by rfl) rfl rfl tq_0 ?_
 with_reducible refine (laws_markText.calls k1 (wrap64 ((wrap64 (ak+1))+1)) ay _ A9.out).mono ?_
 rintro e bd ⟨rfl,hb⟩
 refine ⟨_,rfl,?_⟩
 have n0_:=m_ (below_step th_ hb)
 clear HB
 have HB:=n0_
 clear n0_
 (try clear hb)
 refine hK.out _ _ ⟨((HB.out.cell (World.block_lt_of_cell? w _ ab)).trans ab),((HB.out.cell (World.block_lt_of_cell? w _ aa)).trans aa),((HB.out.cell (World.block_lt_of_cell? w _ a9)).trans a9)⟩ (fun hHeld=>?_)
 clear hK K
 refine nm_ (some 36) ?_
 refine yr_ 7 37 bq_7 HT_ ?_
 refine done_ (done_of HT_.out kr_) ?_
 go_upto_if 37 with (fail)
 (try clear a6 a7 a8)
 have H:=az.out
 clear az
 by_cases aw:((rd_T86 l0 a5).f2).toList=ay.toList
 rotate_left
 ·rw [if_neg aw] at H
  have al:=qc_ aw
  have b1:=qd_ aw
  (first|rw [al]|(simp only [i64_w,i32_w];rw [al])|skip)
  obtain rfl:=oi_ H
  go_wp2
  go_ret
  exact ⟨tq_1,th_⟩
 rw [if_pos aw] at H
 have al:=qa_ aw
 have b1:=qb_ aw
 clear aw
 (first|rw [al]|(simp only [i64_w,i32_w];rw [al])|skip)
 have H':=m_ H
 clear H
 go_wp2
 go_roundg k1
 case measure=>have:=HK1.out;omega
 case rel=>exact ⟨(wrap64 ((wrap64 ((wrap64 (ak+1))+1))+1)),(wrap64 (a5+1)),tq_3,tq_3,H',⟨tq_14⟩,⟨th_⟩⟩

def laws_heldEntryS.l0:Nat→List (S90)→Int→Int→Option (Int)
 | 0,_,_,_=>none
 | k+1,x0,x1,x5=>if x5 < (x0.length:Int) then (if 0≤x5 then (if ((rd_T90 x0 x5).f0)=x1 then ((laws_markText.f k (wrap64 (x1+1))).bind fun a5=>(if ((rd_T90 x0 x5).f1).toList=a5.toList then (laws_heldEntryS.l0 k x0 (wrap64 ((wrap64 (x1+1))+1)) (wrap64 (x5+1))) else (some (-1)))) else (some (-1))) else (none)) else (some x1)
def laws_heldEntryS.f (k:Nat) (l0:List (S90)) (a1:Int):Option (Int):=laws_heldEntryS.l0 k l0 a1 0
def laws_heldEntryS.T7:Bool × List (List Nat × List Nat):=(true,[([],[]),([],[]),([0,1],[0,1]),([2],[2]),([3],[3]),([],[]),([5],[5]),([4,6],[4,6])])
def laws_heldEntryS.B7:List Nat:=[0,0,3,7,15,0,32,127]
theorem laws_heldEntryS.tab7:rtab .any (opsOf Tryz.f72 7)=laws_heldEntryS.T7:=by kernel_rfl
theorem laws_heldEntryS.bits7:waitsOk laws_heldEntryS.T7.2 laws_heldEntryS.B7=true:=by kernel_rfl
theorem laws_heldEntryS.calls (k:Nat) (A0:Option Addr) (c0:Nat) (l0:List (S90)) (a1:Int) (r:Int) (w:World) (hr0:Kd.C k90 w A0 l0.length l0) (hc0:l0.length≤c0) (h:laws_heldEntryS.f k l0 a1=some r) :
  Calls Tryz.prog 72 #[.slice A0 l0.length c0,.int .i64 a1] w fun e w'=>e=.returned (.int .i64 r)∧Below w.heap.size w w':=by
 have HR0:=m_ hr0
 have ay:=m_ hc0
 clear hr0 hc0
 have HB:=m_ (Below.refl w.heap.size w)
 unfold laws_heldEntryS.f at h
 have H:=h
 clear h
 have H':=m_ H
 clear H
 go_enter Tryz.func72,Tryz.ntmps72
 go_wp2
 go_loopg [1,5] k (fun kq v1 v5 w'=>∃ (ae:Int) (a5:Int),v1=.int .i64 ae∧v5=.int .i64 a5∧Aside0 (laws_heldEntryS.l0 kq l0 ae a5=some r)∧Aside0 (kq≤k)∧Aside0 (Below w.heap.size w w'))
 case atStart=>exact ⟨(a1),(0),tq_3,tq_3,H',⟨Nat.le_refl _⟩,⟨th_⟩⟩
 case round =>
 clear H'
 try clear p2
 obtain ⟨ae,a5,rfl,rfl,HA,HK1,HB⟩:=hrel
 cases gk with
 | zero=>exact absurd HA.out (by simp [laws_heldEntryS.l0])
 | succ k1 =>
 have H:=HA.out
 clear HA
 simp only [laws_heldEntryS.l0] at H
 by_cases c3:a5 < (l0.length:Int)
 rotate_left
 ·rw [if_neg c3] at H
  have ap:=df_ c3
  clear c3
  obtain rfl:=oi_ H
  go_wp2
  go_ret
  exact ⟨tq_1,th_⟩
 rw [if_pos c3] at H
 have ap:=de_ c3
 clear c3
 obtain ⟨c4,H⟩:=fc_ H
 have ax:=de_ c4
 clear c4
 have av:=m_ H
 clear H
 have ah:0≤(a5:Int):=od_ tq_2
 have ai:a5 < (l0.length:Int):=od_ tq_2
 obtain ⟨af,aq,aa,ab⟩:=at_T90 HR0.out a5 ah ai
 cases aq
 replace aa:=hx_ HB.out aa
 replace ab:=hx_ HB.out ab
 replace ah:=eq_true ah
 replace ai:=eq_true ai
 go_upto_if 18 with (fail)
 (try clear aa ab)
 have H:=av.out
 clear av
 by_cases c6:((rd_T90 l0 a5).f0)=ae
 rotate_left
 ·rw [if_neg c6] at H
  have ag:=qc_ c6
  have ar:=qd_ c6
  (first|rw [ag]|(simp only [i64_w,i32_w];rw [ag])|skip)
  obtain rfl:=oi_ H
  go_wp2
  go_ret
  exact ⟨tq_1,th_⟩
 rw [if_pos c6] at H
 have ag:=qa_ c6
 have ar:=qb_ c6
 clear c6
 (first|rw [ag]|(simp only [i64_w,i32_w];rw [ag])|skip)
 obtain ⟨am,A7,H⟩:=bd_ H
 have aw:=m_ H
 clear H
 try go_wp2
 have n0_:=m_ (below_drew1 HB.out)
 clear HB
 have HB:=n0_
 clear n0_
 have aj:0≤(a5:Int):=od_ tq_2
 have ak:a5 < (l0.length:Int):=od_ tq_2
 obtain ⟨an,au,a6,a7⟩:=at_T90 HR0.out a5 aj ak
 have a8:=a7
 have a9:=a6
 obtain rfl:af=an:=(by injection au)
 replace a6:=hx_ HB.out a6
 replace a7:=hx_ HB.out a7
 replace aj:=eq_true aj
 replace ak:=eq_true ak
 refine start_ (n:=8) (S:=fun w'=>w'.cell? (af.add ((a5).toNat * 2))=some (.int .i64 ((rd_T90 l0 a5).f0))∧w'.cell? ⟨(af.add ((a5).toNat * 2)).block,(af.add ((a5).toNat * 2)).off+1,none⟩=some (.string ((rd_T90 l0 a5).f1))) (ds:=[]) bq_3 kr_ rfl rfl ⟨((HB.out.cell (World.block_lt_of_cell? w _ a9)).trans a9),((HB.out.cell (World.block_lt_of_cell? w _ a8)).trans a8)⟩ (fun hHeld=>?_);refine with_tabW laws_heldEntryS.tab7 laws_heldEntryS.bits7 (fun HT_ HW_=>?_)
 generalize wr.drew=w9 at HB a6 a7 hHeld ⊢
 refine yr_ 0 21 bq_4 HT_ ?_
 refine yr_ 1 22 bq_67 HT_ ?_
 refine yr_ 2 23 bq_68 HT_ ?_
 refine yr_ 3 24 bq_69 HT_ ?_
 refine yr_ 5 26 bq_204 HT_ ?_
 refine tr_ 4 25 bq_5 HT_ HW_ hHeld ?_
 refine one_ (i:=6) (N:=some 27) bq_6 rfl rfl (one_of HT_.out kr_) (by decide) (fun K hK=>?_)
 refine goes_ Tryz.func68 kr_ rfl #[.int .i64 (wrap64 (ae+1))] (by rfl) rfl rfl tq_0 ?_
 with_reducible refine (laws_markText.calls k1 (wrap64 (ae+1)) am _ A7.out).mono ?_
 rintro e az ⟨rfl,hb⟩
 refine ⟨_,rfl,?_⟩
 have n0_:=m_ (below_step th_ hb)
 clear HB
 have HB:=n0_
 clear n0_
 (try clear hb)
 refine hK.out _ _ ⟨((HB.out.cell (World.block_lt_of_cell? w _ a9)).trans a9),((HB.out.cell (World.block_lt_of_cell? w _ a8)).trans a8)⟩ (fun hHeld=>?_)
 clear hK K
 refine nm_ (some 27) ?_
 refine yr_ 7 28 bq_7 HT_ ?_
 refine done_ (done_of HT_.out kr_) ?_
 go_upto_if 28 with (fail)
 (try clear a6 a7)
 have H:=aw.out
 clear aw
 by_cases al:((rd_T90 l0 a5).f1).toList=am.toList
 rotate_left
 ·rw [if_neg al] at H
  have ac:=qc_ al
  have ao:=qd_ al
  (first|rw [ac]|(simp only [i64_w,i32_w];rw [ac])|skip)
  obtain rfl:=oi_ H
  go_wp2
  go_ret
  exact ⟨tq_1,th_⟩
 rw [if_pos al] at H
 have ac:=qa_ al
 have ao:=qb_ al
 clear al
 (first|rw [ac]|(simp only [i64_w,i32_w];rw [ac])|skip)
 have H':=m_ H
 clear H
 go_wp2
 go_roundg k1
 case measure=>have:=HK1.out;omega
 case rel=>exact ⟨(wrap64 ((wrap64 (ae+1))+1)),(wrap64 (a5+1)),tq_3,tq_3,H',⟨tq_14⟩,⟨th_⟩⟩

end Go.Proofs.YtleoknilacjakaaGreatDoor.PFnExactReadPart
