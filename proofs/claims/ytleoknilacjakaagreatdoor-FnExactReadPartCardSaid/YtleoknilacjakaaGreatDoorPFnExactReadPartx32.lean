/- Contracts of Go functions: each call returns what the Lean function beside it computes. Conditions: as each theorem states them. -/
import Derived.Test.YtleoknilacjakaaGreatDoorPkFnExactReadPart
import Derived.Test.YtleoknilacjakaaGreatDoorPFnExactReadPartx3
import Derived.Test.YtleoknilacjakaaGreatDoorPFnExactReadPartx13
import Derived.Test.YtleoknilacjakaaGreatDoorPFnExactReadPartx27
import Derived.Test.YtleoknilacjakaaGreatDoorPFnExactReadPartx30
import Derived.Test.YtleoknilacjakaaGreatDoorPFnExactReadPartx31
namespace Go.Proofs.YtleoknilacjakaaGreatDoor.PFnExactReadPart
open Go.RowKit Go.Proofs.YtleoknilacjakaaGreatDoorW.PrintWords Go.Proofs.YtleoknilacjakaaGreatDoorW.PrintLast Go.Proofs.YtleoknilacjakaaGreatDoorW.PrintMore
attribute [local go_sem] max2_int min2_int max_two min_two max_three min_three max_four min_four setCell_drewN   -- for this text's walks alone
set_option linter.unusedVariables false
set_option maxHeartbeats 8000000
set_option maxRecDepth 100000
set_option linter.unusedSimpArgs false

mutual
def laws_FnExactReadPart.j0:Nat→Int→Bool→Bool→Bool→ByteArray→List (S76)→Int→Int→Int→Int→Int→List Int→List (S62)→ByteArray→List (S78)→Int→List Int→List (S62)→Option (Bool)
 | 0,_,_,_,_,_,_,_,_,_,_,_,_,_,_,_,_,_,_=>none
 | k+1,x2,x9,ao,ap,a5,a6,ae,af,ag,ah,a7,a8,a9,ai,aj,aa,ab,ac=>if ap=true then (some false) else ((laws_toMemory.f k a5 a6).bind fun ak=>((laws_eqMemory.f k ai aj ak.1 ak.2).bind fun am=>(if am=true then ((laws_markMemory.f k ai aj 1).bind fun al=>(if al.1 < 0 then (laws_FnExactReadPart.j1 k x2 x9 true a5 a6 ae af ag ah a7 a8 a9 aa ab ac) else ((laws_eqPart.f k aa ab ac a7 a8 a9).bind fun an=>(if an=true then (laws_FnExactReadPart.j1 k x2 x9 (ao != x9) a5 a6 ae af ag ah a7 a8 a9 aa ab ac) else (laws_FnExactReadPart.j1 k x2 x9 true a5 a6 ae af ag ah a7 a8 a9 aa ab ac))))) else (some false))))
def laws_FnExactReadPart.j1:Nat→Int→Bool→Bool→ByteArray→List (S76)→Int→Int→Int→Int→Int→List Int→List (S62)→Int→List Int→List (S62)→Option (Bool)
 | 0,_,_,_,_,_,_,_,_,_,_,_,_,_,_,_=>none
 | k+1,x2,x9,ao,a9,aa,ab,ac,ae,af,ag,ah,ai,a6,aj,ak=>if ao=true then (some false) else ((laws_markPart.f k a6 aj ak 1).bind fun a5=>((laws_heldPart.f k a6 a5.2.1 a5.2.2 1).bind fun am=>(if am < 0 then (some false) else (if am=a5.1 then ((laws_toMemory.f k a9 aa).bind fun al=>((laws_toGeo.f ab ac ae af).bind fun a7=>((impl_ReadPart.f k al.1 al.2 a7.1 a7.2.1 a7.2.2.1 a7.2.2.2 x2).bind fun a8=>((laws_eqPart.f k a8.1 a8.2.1 a8.2.2.1 ag ah ai).bind fun an=>(if an=true then (laws_FnExactReadPart.j2 k a5.1 (a8.2.2.2 != x9) a6 a5.2.1 a5.2.2) else (laws_FnExactReadPart.j2 k a5.1 true a6 a5.2.1 a5.2.2)))))) else (some false)))))
def laws_FnExactReadPart.j2:Nat→Int→Bool→Int→List Int→List (S62)→Option (Bool)
 | 0,_,_,_,_,_=>none
 | k+1,aa,a9,a5,a6,a7=>if a9=true then (some false) else ((laws_heldPart.f k a5 a6 a7 1).bind fun a8=>(if a8 < 0 then (some false) else (if a8=aa then (some true) else (some false))))
end
def laws_FnExactReadPart.f (k:Nat) (aa:ByteArray) (ab:List (S76)) (ac:Int) (ae:Int) (af:Int) (ag:Int) (a2:Int):Option (Bool):=(laws_szMemory.f k aa ab 1048576).bind fun ai=>(if ai < 0 then (some true) else ((laws_toMemory.f k aa ab).bind fun ah=>((laws_toGeo.f ac ae af ag).bind fun a8=>((spec_ReadPart.f k ah.1 ah.2 a8.1 a8.2.1 a8.2.2.1 a8.2.2.2 a2).bind fun a5=>((laws_toMemory.f k aa ab).bind fun a7=>((laws_toGeo.f ac ae af ag).bind fun a9=>((impl_ReadPart.f k a7.1 a7.2 a9.1 a9.2.1 a9.2.2.1 a9.2.2.2 a2).bind fun a6=>((laws_eqPart.f k a6.1 a6.2.1 a6.2.2.1 a5.1 a5.2.1 a5.2.2.1).bind fun aj=>(if aj=true then (laws_FnExactReadPart.j0 k a2 a5.2.2.2 a6.2.2.2 (a6.2.2.2 != a5.2.2.2) aa ab ac ae af ag a5.1 a5.2.1 a5.2.2.1 a7.1 a7.2 a6.1 a6.2.1 a6.2.2.1) else (laws_FnExactReadPart.j0 k a2 a5.2.2.2 a6.2.2.2 true aa ab ac ae af ag a5.1 a5.2.1 a5.2.2.1 a7.1 a7.2 a6.1 a6.2.1 a6.2.2.1))))))))))
def laws_FnExactReadPart.T5:Bool × List (List Nat × List Nat):=(true,[([],[]),([0],[0]),([],[]),([2,1],[2]),([],[]),([1,3,4,3],[1,3,4]),([5],[5]),([6],[6]),([6],[6]),([],[]),([9,7,5,0,1,2,3,4,5,6,7,9],[7,9]),([8,10,0,1,2,3,4,5,6,7,8,9,10],[8])])
def laws_FnExactReadPart.B5:List Nat:=[0,1,0,7,0,31,63,127,127,0,767,2047]
theorem laws_FnExactReadPart.tab5:rtab .any (opsOf Tryz.f3 5)=laws_FnExactReadPart.T5:=by kernel_rfl
theorem laws_FnExactReadPart.bits5:waitsOk laws_FnExactReadPart.T5.2 laws_FnExactReadPart.B5=true:=by kernel_rfl
def laws_FnExactReadPart.T7:Bool × List (List Nat × List Nat):=(true,[([],[]),([],[]),([1],[1]),([],[]),([0,2,3,2],[0,2,3]),([4],[4]),([5],[5]),([5],[5]),([],[]),([8,6,4,0,1,2,3,4,5,6,8],[6,8]),([7,9,0,1,2,3,4,5,6,7,8,9],[7])])
def laws_FnExactReadPart.B7:List Nat:=[0,0,2,0,15,31,63,63,0,383,1023]
theorem laws_FnExactReadPart.tab7:rtab .any (opsOf Tryz.f3 7)=laws_FnExactReadPart.T7:=by kernel_rfl
theorem laws_FnExactReadPart.bits7:waitsOk laws_FnExactReadPart.T7.2 laws_FnExactReadPart.B7=true:=by kernel_rfl
def laws_FnExactReadPart.T24:Bool × List (List Nat × List Nat):=(true,[([],[]),([0],[0]),([],[]),([2,1],[2]),([],[]),([1,3,4,3],[1,3,4]),([5],[5]),([6],[6]),([6],[6]),([],[]),([9,7,5,0,1,2,3,4,5,6,7,9],[7,9]),([8,10,0,1,2,3,4,5,6,7,8,9,10],[8])])
def laws_FnExactReadPart.B24:List Nat:=[0,1,0,7,0,31,63,127,127,0,767,2047]
theorem laws_FnExactReadPart.tab24:rtab .any (opsOf Tryz.f3 24)=laws_FnExactReadPart.T24:=by kernel_rfl
theorem laws_FnExactReadPart.bits24:waitsOk laws_FnExactReadPart.T24.2 laws_FnExactReadPart.B24=true:=by kernel_rfl
theorem laws_FnExactReadPart.calls (k:Nat) (aw:ByteArray) (b8:Option Addr) (b9:Nat) (ar:List (S76)) (an:Int) (ao:Int) (ap:Int) (aq:Int) (a2:Int) (r:Bool) (w:World) (en:Kd.C k76 w b8 ar.length ar) (eo:ar.length≤b9) (h:laws_FnExactReadPart.f k aw ar an ao ap aq a2=some r) :
  Calls Tryz.prog 3 #[.agg #[.string aw,.slice b8 ar.length b9],.agg #[.int .i64 an,.int .i64 ao,.int .i64 ap,.int .i64 aq],.int .i64 a2] w fun e w'=>e=.returned (.bool r)∧Below w.heap.size w w':=by
 have hu24:=Tryz.underlying24
 have hu26:=Tryz.underlying26
 have hu31:=Tryz.underlying31
 have hu36:=Tryz.underlying36
 have HR0_1:=m_ en
 have cu:=m_ eo
 clear en eo
 have HB:=m_ (Below.refl w.heap.size w)
 unfold laws_FnExactReadPart.f at h
 have H:=h
 clear h
 obtain ⟨fs,A4,H⟩:=bd_ H
 have hh:=m_ H
 clear H
 go_enter Tryz.func3,Tryz.ntmps3
 go_upto_if 22 with (first|((with_reducible refine gate_dst (N:=3) rfl ?_);refine be_ 3 (cs:=#[.string aw,.slice b8 ar.length b9]) 24 ?_;intro ae hg w6 hbox hb;have z_:=bx0_ th_ hb hbox hg;clear HB;obtain ⟨HB,BK732,hm,GE732⟩:=z_;clear hb hbox hg)|((with_reducible refine gate_dst (N:=4) rfl ?_);refine be_ 4 (cs:=#[.int .i64 an,.int .i64 ao,.int .i64 ap,.int .i64 aq]) 26 ?_;intro a5 hg w7 hbox hb;have z_:=bx1_ (kb_ BK732) th_ hb hbox hg;clear BK732 HB;obtain ⟨BK732,HB,BK733,hu,GE733,d9,da⟩:=z_;clear hb hbox hg;obtain ⟨cv,cw⟩:=an2_ d9 da;have ia:=bb2_ BK732.out)|((with_reducible refine gate_callee (f:=4) rfl ?_);refine goesL_ (some 20) rfl rfl Tryz.func4 kr_ rfl #[.agg #[.string aw,.slice b8 ar.length b9],.int .i64 1048576] rfl tq_0 ?_;(with_reducible refine (laws_szMemory.calls k aw _ _ ar 1048576 fs _ ?side1 ?side2 A4.out).mono ?_);(case side1=>exact tq_4);(case side2=>exact cu.out);rintro e ib ⟨rfl,hb⟩;refine ⟨_,rfl,?_⟩;have z_:=bw2_ (kb_ BK732) (kb_ BK733) th_ hb;clear BK732 BK733 HB;obtain ⟨BK732,BK733,HB⟩:=z_;(try clear hb)))
 (try simp only [Act.put,List.setIfInBounds_toArray,List.set_cons_zero,List.set_cons_succ])
 (try clear cv cw)
 (try clear ia)
 have H:=hh.out
 clear hh
 by_cases fc:fs < 0
 ·rw [if_pos fc] at H
  have dp:=de_ fc
  clear fc
  (first|rw [dp]|(simp only [i64_w,i32_w];rw [dp])|skip)
  obtain rfl:=oi_ H
  go_wp2
  go_ret
  exact ⟨tq_1,th_⟩
 rw [if_neg fc] at H
 have dp:=df_ fc
 clear fc
 (first|rw [dp]|(simp only [i64_w,i32_w];rw [dp])|skip)
 obtain ⟨⟨cx,bm⟩,i0,H⟩:=bd_ H
 try dsimp -simprocs only at H
 obtain ⟨⟨ck,cl,cm,cn⟩,gp,H⟩:=bd_ H
 try dsimp -simprocs only at H
 obtain ⟨⟨ba,ac,a9,co⟩,go,H⟩:=bd_ H
 try dsimp -simprocs only at H
 obtain ⟨⟨b1,ak⟩,ic,H⟩:=bd_ H
 try dsimp -simprocs only at H
 obtain ⟨⟨dh,di,dj,dk⟩,i1,H⟩:=bd_ H
 try dsimp -simprocs only at H
 obtain ⟨⟨t761,t762,t765,dl⟩,gq,H⟩:=bd_ H
 try dsimp -simprocs only at H
 have fd:=m_ H
 clear H
 try go_wp2
 have z_:=dw2_ BK732 BK733 HB
 clear BK732 BK733 HB
 obtain ⟨BK732,BK733,HB⟩:=z_
 refine start_ (n:=12) (S:=fun w'=>w'.cell? ⟨ae,0,none⟩=some (.string aw)∧w'.cell? ⟨ae,1,none⟩=some (.slice b8 ar.length b9)∧w'.cell? ⟨a5,0,none⟩=some (.int .i64 an)∧w'.cell? ⟨a5,1,none⟩=some (.int .i64 ao)∧w'.cell? ⟨a5,2,none⟩=some (.int .i64 ap)∧w'.cell? ⟨a5,3,none⟩=some (.int .i64 aq)) (ds:=[]) bq_201 kr_ rfl rfl (bc2_ BK732.out (bk4_ BK733.out)) (fun hHeld=>?_);refine with_tabW laws_FnExactReadPart.tab5 laws_FnExactReadPart.bits5 (fun HT_ HW_=>?_)
 generalize ib.drew=lc at BK732 BK733 HB hHeld ⊢
 refine yr_ 4 28 bq_278 HT_ ?_
 refine tr_ 0 24 bq_279 HT_ HW_ hHeld ?_
 refine tr_ 2 26 bq_280 HT_ HW_ hHeld ?_
 refine join_ (σ:=Value × Value × Value × Nat) 2 bq_1 (fun s_=>[(25,.agg #[.string cx,s_.1]),(27,.agg #[.int .i64 ck,.int .i64 cl,.int .i64 cm,.int .i64 cn]),(29,.tuple #[.agg #[.int .i64 ba,s_.2.1,s_.2.2.1],.bool co]),(8,.pointer (some ⟨s_.2.2.2,0,none⟩)),(23,.tuple #[.agg #[.int .i64 ba,s_.2.1,s_.2.2.1],.bool co]),(30,.agg #[.int .i64 ba,s_.2.1,s_.2.2.1]),(31,.bool co)]) (fun s_ w'=>(w'.cell? ⟨ae,0,none⟩=some (.string aw)∧w'.cell? ⟨ae,1,none⟩=some (.slice b8 ar.length b9)∧w'.cell? ⟨a5,0,none⟩=some (.int .i64 an)∧w'.cell? ⟨a5,1,none⟩=some (.int .i64 ao)∧w'.cell? ⟨a5,2,none⟩=some (.int .i64 ap)∧w'.cell? ⟨a5,3,none⟩=some (.int .i64 aq))∧(Kd.R k78 78 w' w.heap.size (fun _=>True) s_.1 bm)∧(Kd.R (Kd.int .i64) 3 w' w.heap.size (fun _=>True) s_.2.1 ac)∧(Kd.S k62 62 w' w.heap.size (fun _=>True) s_.2.2.1 a9)∧(w'.heap[ae]?=some (.cells #[.string aw,.slice b8 ar.length b9] 24 (0,0)))∧(w'.heap[a5]?=some (.cells #[.int .i64 an,.int .i64 ao,.int .i64 ap,.int .i64 aq] 26 (0,0)))∧(w'.heap[s_.2.2.2]?=some (.cells #[.int .i64 0,.slice none 0 0,.slice none 0 0] 31 (0,0)))∧(w.heap.size≤s_.2.2.2)∧(w.heap.size≤s_.2.2.2)∧(ae≠s_.2.2.2)∧(s_.2.2.2≠ae)∧(a5≠s_.2.2.2)∧(s_.2.2.2≠a5)∧(Below w.heap.size w w')) ?_ ?_
 rotate_left
 ·intro hCont
  refine two_ (i:=1) (j:=9) (Ni:=some 25) (Nj:=some 8) bq_281 bq_282 rfl rfl rfl rfl (two_of HT_.out kr_) (by decide) (by decide) (fun K hK=>?_) (fun K hK=>?_)
  ·skip
   refine goes_ Tryz.func6 kr_ rfl #[.agg #[.string aw,.slice b8 ar.length b9]] (by rfl) rfl rfl tq_0 ?_
   with_reducible refine (laws_toMemory.calls k aw _ _ ar cx bm _ ?side1 ?side2 i0.out).mono ?_
   (case side1=>exact tq_4)
   (case side2=>exact cu.out)
   rintro e id ⟨v737,rfl,ho0,hb⟩
   refine ⟨_,rfl,?_⟩
   have z_:=p_ (Kd.R_lower ho0 (below_size th_)) <| bw2_ (kb_ BK732) (kb_ BK733) th_ hb
   clear BK732 BK733 HB
   obtain ⟨HO738,BK732,BK733,HB⟩:=z_
   (try clear hb)
   (try clear ho0)
   refine hK.out _ _ (bc2_ BK732.out (bk4_ BK733.out)) (fun hHeld=>?_)
   clear hK K
   refine nm_ (some 25) ?_
   refine two_ (i:=3) (j:=9) (Ni:=some 27) (Nj:=some 8) bq_283 bq_142 rfl rfl rfl rfl (two_of HT_.out kr_) (by decide) (by decide) (fun K hK=>?_) (fun K hK=>?_)
   ·skip
    refine goes_ Tryz.func7 kr_ rfl #[.agg #[.int .i64 an,.int .i64 ao,.int .i64 ap,.int .i64 aq]] (by rfl) rfl rfl tq_0 ?_
    with_reducible refine (laws_toGeo.calls an ao ap aq ck cl cm cn _ gp.out).mono ?_
    rintro e i2 ⟨rfl,hb⟩
    refine ⟨_,rfl,?_⟩
    have z_:=p_ (Kd.R_below (raR_ HO738) hb) <| bw2_ (kb_ BK732) (kb_ BK733) th_ hb
    clear HO738 BK732 BK733 HB
    obtain ⟨HO738,BK732,BK733,HB⟩:=z_
    (try clear hb)
    obtain ⟨ft,fu,fw⟩:=Kd.R_slice HO738.out
    (first|subst fw|(injection fw with f1_ f2_ f3_;have f4_:=f1_.symm;have f5_:=f3_.symm;clear f1_ f2_ f3_;subst f4_;subst f5_))
    refine hK.out _ _ (bc2_ BK732.out (bk4_ BK733.out)) (fun hHeld=>?_)
    clear hK K
    refine nm_ (some 27) ?_
    refine two_ (i:=5) (j:=9) (Ni:=some 29) (Nj:=some 8) bq_284 bq_25 rfl rfl rfl rfl (two_of HT_.out kr_) (by decide) (by decide) (fun K hK=>?_) (fun K hK=>?_)
    ·skip
     refine goes_ Tryz.func5 kr_ rfl #[.agg #[.string cx,.slice ft bm.length fu],.agg #[.int .i64 ck,.int .i64 cl,.int .i64 cm,.int .i64 cn],.int .i64 a2] (by rfl) rfl rfl tq_0 ?_
     with_reducible refine (spec_ReadPart.calls k cx _ _ bm ck cl cm cn a2 ba ac a9 co _ ?side1 ?side2 go.out).mono ?_
     (case side1=>exact tq_45)
     (case side2=>exact (Kd.R_reads' HO738.out).2.1)
     rintro e ld ⟨v745,v748,rfl,ho0,ho1,hb⟩
     refine ⟨_,rfl,?_⟩
     have z_:=p_ (Kd.R_below (raR_ HO738) hb) <| p_ (Kd.R_lower ho0 (below_size th_)) <| p_ (Kd.S_lower ho1 (below_size th_)) <| bw2_ (kb_ BK732) (kb_ BK733) th_ hb
     clear HO738 BK732 BK733 HB
     obtain ⟨HO738,HO746,HO749,BK732,BK733,HB⟩:=z_
     (try clear hb)
     (try clear ho0)
     (try clear ho1)
     refine hK.out _ _ (bc2_ BK732.out (bk4_ BK733.out)) (fun hHeld=>?_)
     clear hK K
     refine nm_ (some 29) ?_
     refine yr_ 6 23 bq_285 HT_ ?_
     refine yr_ 7 30 bq_286 HT_ ?_
     refine yr_ 8 31 bq_287 HT_ ?_
     refine one_ (i:=9) (N:=some 8) bq_1 rfl rfl (one_of HT_.out kr_) (by decide) (fun K hK=>?_)
     refine box_step ?hg (N:=8) ?hd (cs:=#[.int .i64 0,.slice none 0 0,.slice none 0 0]) (t:=31) ?hr ?_;(case hd=>rfl);(case hg=>rfl);(case hr=>first|(go_simp;done)|(go_simp;rfl))
     intro af hg gr hbox hb
     have z_:=p_ (Kd.R_below (raR_ HO738) hb) <| p_ (Kd.R_below (raR_ HO746) hb) <| p_ (Kd.S_below (raS_ HO749) hb) <| bx2_ (kb_ BK732) (kb_ BK733) th_ hb hbox hg
     clear HO738 HO746 HO749 BK732 BK733 HB
     obtain ⟨HO738,HO746,HO749,BK732,BK733,HB,BK751,ce,GE751,aa,ag,a6,ah⟩:=z_
     clear hb hbox hg
     refine hK.out _ _ (bc2_ BK732.out (bk4_ BK733.out)) (fun hHeld=>?_)
     clear hK K
     refine nm_ (some 8) ?_
     exact norm_ tq_10 (hCont (.slice ft bm.length fu,v745,v748,af) _ ⟨hHeld,(raR_ HO738),(raR_ HO746),(raS_ HO749),(kb_ BK732),(kb_ BK733),(kb_ BK751),ce.out,GE751.out,aa.out,ag.out,a6.out,ah.out,th_⟩)
    ·skip
     refine box_step ?hg (N:=8) ?hd (cs:=#[.int .i64 0,.slice none 0 0,.slice none 0 0]) (t:=31) ?hr ?_;(case hd=>rfl);(case hg=>rfl);(case hr=>first|(go_simp;done)|(go_simp;rfl))
     intro af hg i3 hbox hb
     have z_:=p_ (Kd.R_below (raR_ HO738) hb) <| bx2_ (kb_ BK732) (kb_ BK733) th_ hb hbox hg
     clear HO738 BK732 BK733 HB
     obtain ⟨HO738,BK732,BK733,HB,BK751,ce,GE751,aa,ag,a6,ah⟩:=z_
     clear hb hbox hg
     obtain ⟨dq,dr,dt⟩:=Kd.R_slice HO738.out
     (first|subst dt|(injection dt with f1_ f2_ f3_;have f4_:=f1_.symm;have f5_:=f3_.symm;clear f1_ f2_ f3_;subst f4_;subst f5_))
     refine hK.out _ _ (bc2_ BK732.out (bk4_ BK733.out)) (fun hHeld=>?_)
     clear hK K
     refine nm_ (some 8) ?_
     refine one_ (i:=5) (N:=some 29) bq_26 rfl rfl (one_of HT_.out kr_) (by decide) (fun K hK=>?_)
     refine goes_ Tryz.func5 kr_ rfl #[.agg #[.string cx,.slice dq bm.length dr],.agg #[.int .i64 ck,.int .i64 cl,.int .i64 cm,.int .i64 cn],.int .i64 a2] (by rfl) rfl rfl tq_0 ?_
     with_reducible refine (spec_ReadPart.calls k cx _ _ bm ck cl cm cn a2 ba ac a9 co _ ?side1 ?side2 go.out).mono ?_
     (case side1=>exact tq_45)
     (case side2=>exact (Kd.R_reads' HO738.out).2.1)
     rintro e gr ⟨v745,v748,rfl,ho0,ho1,hb⟩
     refine ⟨_,rfl,?_⟩
     have z_:=p_ (Kd.R_below (raR_ HO738) hb) <| p_ (Kd.R_lower ho0 (below_size th_)) <| p_ (Kd.S_lower ho1 (below_size th_)) <| bw3_ (kb_ BK732) (kb_ BK733) (kb_ BK751) th_ hb
     clear HO738 BK732 BK733 BK751 HB
     obtain ⟨HO738,HO746,HO749,BK732,BK733,BK751,HB⟩:=z_
     (try clear hb)
     (try clear ho0)
     (try clear ho1)
     refine hK.out _ _ (bc2_ BK732.out (bk4_ BK733.out)) (fun hHeld=>?_)
     clear hK K
     refine nm_ (some 29) ?_
     refine yr_ 6 23 bq_27 HT_ ?_
     refine yr_ 7 30 bq_28 HT_ ?_
     refine yr_ 8 31 bq_1 HT_ ?_
     exact norm_ tq_10 (hCont (.slice dq bm.length dr,v745,v748,af) _ ⟨hHeld,(raR_ HO738),(raR_ HO746),(raS_ HO749),(kb_ BK732),(kb_ BK733),(kb_ BK751),ce.out,GE751.out,aa.out,ag.out,a6.out,ah.out,th_⟩)
   ·skip
    refine box_step ?hg (N:=8) ?hd (cs:=#[.int .i64 0,.slice none 0 0,.slice none 0 0]) (t:=31) ?hr ?_;(case hd=>rfl);(case hg=>rfl);(case hr=>first|(go_simp;done)|(go_simp;rfl))
    intro af hg i2 hbox hb
    have z_:=p_ (Kd.R_below (raR_ HO738) hb) <| bx2_ (kb_ BK732) (kb_ BK733) th_ hb hbox hg
    clear HO738 BK732 BK733 HB
    obtain ⟨HO738,BK732,BK733,HB,BK751,ce,GE751,aa,ag,a6,ah⟩:=z_
    clear hb hbox hg
    refine hK.out _ _ (bc2_ BK732.out (bk4_ BK733.out)) (fun hHeld=>?_)
    clear hK K
    refine nm_ (some 8) ?_
    refine one_ (i:=3) (N:=some 27) bq_25 rfl rfl (one_of HT_.out kr_) (by decide) (fun K hK=>?_)
    refine goes_ Tryz.func7 kr_ rfl #[.agg #[.int .i64 an,.int .i64 ao,.int .i64 ap,.int .i64 aq]] (by rfl) rfl rfl tq_0 ?_
    with_reducible refine (laws_toGeo.calls an ao ap aq ck cl cm cn _ gp.out).mono ?_
    rintro e i3 ⟨rfl,hb⟩
    refine ⟨_,rfl,?_⟩
    have z_:=p_ (Kd.R_below (raR_ HO738) hb) <| bw3_ (kb_ BK732) (kb_ BK733) (kb_ BK751) th_ hb
    clear HO738 BK732 BK733 BK751 HB
    obtain ⟨HO738,BK732,BK733,BK751,HB⟩:=z_
    (try clear hb)
    obtain ⟨dq,dr,dt⟩:=Kd.R_slice HO738.out
    (first|subst dt|(injection dt with f1_ f2_ f3_;have f4_:=f1_.symm;have f5_:=f3_.symm;clear f1_ f2_ f3_;subst f4_;subst f5_))
    refine hK.out _ _ (bc2_ BK732.out (bk4_ BK733.out)) (fun hHeld=>?_)
    clear hK K
    refine nm_ (some 27) ?_
    refine one_ (i:=5) (N:=some 29) bq_26 rfl rfl (one_of HT_.out kr_) (by decide) (fun K hK=>?_)
    refine goes_ Tryz.func5 kr_ rfl #[.agg #[.string cx,.slice dq bm.length dr],.agg #[.int .i64 ck,.int .i64 cl,.int .i64 cm,.int .i64 cn],.int .i64 a2] (by rfl) rfl rfl tq_0 ?_
    with_reducible refine (spec_ReadPart.calls k cx _ _ bm ck cl cm cn a2 ba ac a9 co _ ?side1 ?side2 go.out).mono ?_
    (case side1=>exact tq_45)
    (case side2=>exact (Kd.R_reads' HO738.out).2.1)
    rintro e gr ⟨v745,v748,rfl,ho0,ho1,hb⟩
    refine ⟨_,rfl,?_⟩
    have z_:=p_ (Kd.R_below (raR_ HO738) hb) <| p_ (Kd.R_lower ho0 (below_size th_)) <| p_ (Kd.S_lower ho1 (below_size th_)) <| bw3_ (kb_ BK732) (kb_ BK733) (kb_ BK751) th_ hb
    clear HO738 BK732 BK733 BK751 HB
    obtain ⟨HO738,HO746,HO749,BK732,BK733,BK751,HB⟩:=z_
    (try clear hb)
    (try clear ho0)
    (try clear ho1)
    refine hK.out _ _ (bc2_ BK732.out (bk4_ BK733.out)) (fun hHeld=>?_)
    clear hK K
    refine nm_ (some 29) ?_
    refine yr_ 6 23 bq_27 HT_ ?_
    refine yr_ 7 30 bq_28 HT_ ?_
    refine yr_ 8 31 bq_1 HT_ ?_
    exact norm_ tq_10 (hCont (.slice dq bm.length dr,v745,v748,af) _ ⟨hHeld,(raR_ HO738),(raR_ HO746),(raS_ HO749),(kb_ BK732),(kb_ BK733),(kb_ BK751),ce.out,GE751.out,aa.out,ag.out,a6.out,ah.out,th_⟩)
  ·skip
   refine box_step ?hg (N:=8) ?hd (cs:=#[.int .i64 0,.slice none 0 0,.slice none 0 0]) (t:=31) ?hr ?_;(case hd=>rfl);(case hg=>rfl);(case hr=>first|(go_simp;done)|(go_simp;rfl))
   intro af hg id hbox hb
   have z_:=bx2_ (kb_ BK732) (kb_ BK733) th_ hb hbox hg
   clear BK732 BK733 HB
   obtain ⟨BK732,BK733,HB,BK751,ce,GE751,aa,ag,a6,ah⟩:=z_
   clear hb hbox hg
   refine hK.out _ _ (bc2_ BK732.out (bk4_ BK733.out)) (fun hHeld=>?_)
   clear hK K
   refine nm_ (some 8) ?_
   refine one_ (i:=1) (N:=some 25) bq_142 rfl rfl (one_of HT_.out kr_) (by decide) (fun K hK=>?_)
   refine goes_ Tryz.func6 kr_ rfl #[.agg #[.string aw,.slice b8 ar.length b9]] (by rfl) rfl rfl tq_0 ?_
   with_reducible refine (laws_toMemory.calls k aw _ _ ar cx bm _ ?side1 ?side2 i0.out).mono ?_
   (case side1=>exact tq_4)
   (case side2=>exact cu.out)
   rintro e i2 ⟨v737,rfl,ho0,hb⟩
   refine ⟨_,rfl,?_⟩
   have z_:=p_ (Kd.R_lower ho0 (below_size th_)) <| bw3_ (kb_ BK732) (kb_ BK733) (kb_ BK751) th_ hb
   clear BK732 BK733 BK751 HB
   obtain ⟨HO738,BK732,BK733,BK751,HB⟩:=z_
   (try clear hb)
   (try clear ho0)
   refine hK.out _ _ (bc2_ BK732.out (bk4_ BK733.out)) (fun hHeld=>?_)
   clear hK K
   refine nm_ (some 25) ?_
   refine one_ (i:=3) (N:=some 27) bq_25 rfl rfl (one_of HT_.out kr_) (by decide) (fun K hK=>?_)
   refine goes_ Tryz.func7 kr_ rfl #[.agg #[.int .i64 an,.int .i64 ao,.int .i64 ap,.int .i64 aq]] (by rfl) rfl rfl tq_0 ?_
   with_reducible refine (laws_toGeo.calls an ao ap aq ck cl cm cn _ gp.out).mono ?_
   rintro e i3 ⟨rfl,hb⟩
   refine ⟨_,rfl,?_⟩
   have z_:=p_ (Kd.R_below (raR_ HO738) hb) <| bw3_ (kb_ BK732) (kb_ BK733) (kb_ BK751) th_ hb
   clear HO738 BK732 BK733 BK751 HB
   obtain ⟨HO738,BK732,BK733,BK751,HB⟩:=z_
   (try clear hb)
   obtain ⟨dq,dr,dt⟩:=Kd.R_slice HO738.out
   (first|subst dt|(injection dt with f1_ f2_ f3_;have f4_:=f1_.symm;have f5_:=f3_.symm;clear f1_ f2_ f3_;subst f4_;subst f5_))
   refine hK.out _ _ (bc2_ BK732.out (bk4_ BK733.out)) (fun hHeld=>?_)
   clear hK K
   refine nm_ (some 27) ?_
   refine one_ (i:=5) (N:=some 29) bq_26 rfl rfl (one_of HT_.out kr_) (by decide) (fun K hK=>?_)
   refine goes_ Tryz.func5 kr_ rfl #[.agg #[.string cx,.slice dq bm.length dr],.agg #[.int .i64 ck,.int .i64 cl,.int .i64 cm,.int .i64 cn],.int .i64 a2] (by rfl) rfl rfl tq_0 ?_
   with_reducible refine (spec_ReadPart.calls k cx _ _ bm ck cl cm cn a2 ba ac a9 co _ ?side1 ?side2 go.out).mono ?_
   (case side1=>exact tq_45)
   (case side2=>exact (Kd.R_reads' HO738.out).2.1)
   rintro e gr ⟨v745,v748,rfl,ho0,ho1,hb⟩
   refine ⟨_,rfl,?_⟩
   have z_:=p_ (Kd.R_below (raR_ HO738) hb) <| p_ (Kd.R_lower ho0 (below_size th_)) <| p_ (Kd.S_lower ho1 (below_size th_)) <| bw3_ (kb_ BK732) (kb_ BK733) (kb_ BK751) th_ hb
   clear HO738 BK732 BK733 BK751 HB
   obtain ⟨HO738,HO746,HO749,BK732,BK733,BK751,HB⟩:=z_
   (try clear hb)
   (try clear ho0)
   (try clear ho1)
   refine hK.out _ _ (bc2_ BK732.out (bk4_ BK733.out)) (fun hHeld=>?_)
   clear hK K
   refine nm_ (some 29) ?_
   refine yr_ 6 23 bq_27 HT_ ?_
   refine yr_ 7 30 bq_28 HT_ ?_
   refine yr_ 8 31 bq_1 HT_ ?_
   exact norm_ tq_10 (hCont (.slice dq bm.length dr,v745,v748,af) _ ⟨hHeld,(raR_ HO738),(raR_ HO746),(raS_ HO749),(kb_ BK732),(kb_ BK733),(kb_ BK751),ce.out,GE751.out,aa.out,ag.out,a6.out,ah.out,th_⟩)
 rintro ⟨v737,v745,v748,af⟩ dv ⟨hS_,h0_,h1_,h2_,h3_,h4_,h5_,h6_,h7_,h8_,h9_,h10_,h11_,h12_⟩
 have z_:=q_ (⟨h0_⟩:Aside0 (Kd.R k78 78 dv w.heap.size (fun _=>True) v737 bm)) <| q_ (⟨h1_⟩:Aside0 (Kd.R (Kd.int .i64) 3 dv w.heap.size (fun _=>True) v745 ac)) <| q_ (⟨h2_⟩:Aside0 (Kd.S k62 62 dv w.heap.size (fun _=>True) v748 a9)) <| q_ (⟨h3_⟩:Aside0 (dv.heap[ae]?=some (.cells #[.string aw,.slice b8 ar.length b9] 24 (0,0)))) <| q_ (⟨h4_⟩:Aside0 (dv.heap[a5]?=some (.cells #[.int .i64 an,.int .i64 ao,.int .i64 ap,.int .i64 aq] 26 (0,0)))) <| q_ (⟨h5_⟩:Aside0 (dv.heap[af]?=some (.cells #[.int .i64 0,.slice none 0 0,.slice none 0 0] 31 (0,0)))) <| q_ (⟨h6_⟩:Aside0 (w.heap.size≤af)) <| q_ (⟨h7_⟩:Aside0 (w.heap.size≤af)) <| q_ (⟨h8_⟩:Aside0 (ae≠af)) <| q_ (⟨h9_⟩:Aside0 (af≠ae)) <| q_ (⟨h10_⟩:Aside0 (a5≠af)) <| q_ (⟨h11_⟩:Aside0 (af≠a5)) <| (⟨h12_⟩:Aside0 (Below w.heap.size w dv))
 clear BK732 BK733 HB h0_ h1_ h2_ h3_ h4_ h5_ h6_ h7_ h8_ h9_ h10_ h11_ h12_
 obtain ⟨HO738,HO746,HO749,BK732,BK733,BK751,ce,GE751,aa,ag,a6,ah,HB⟩:=z_
 have hHeld:dv.cell? ⟨ae,0,none⟩=some (.string aw)∧dv.cell? ⟨ae,1,none⟩=some (.slice b8 ar.length b9)∧dv.cell? ⟨a5,0,none⟩=some (.int .i64 an)∧dv.cell? ⟨a5,1,none⟩=some (.int .i64 ao)∧dv.cell? ⟨a5,2,none⟩=some (.int .i64 ap)∧dv.cell? ⟨a5,3,none⟩=some (.int .i64 aq):=hS_
 obtain ⟨b0,au,fx⟩:=Kd.R_slice HO746.out
 (first|subst fx|(injection fx with f1_ f2_ f3_;have f4_:=f1_.symm;have f5_:=f3_.symm;clear f1_ f2_ f3_;subst f4_;subst f5_))
 obtain ⟨av,ai,fy⟩:=Kd.S_slice HO749.out
 (first|subst fy|(injection fy with f1_ f2_ f3_;have f4_:=f1_.symm;have f5_:=f3_.symm;clear f1_ f2_ f3_;subst f4_;subst f5_))
 refine norm_ (a':=?_) ?_ ?_
 rotate_left
 ·simp only [putAll,Act.put,List.setIfInBounds_toArray,List.set_cons_zero,List.set_cons_succ]
  rfl
 refine one_ (i:=10) (N:=none) bq_202 rfl rfl (one_of HT_.out kr_) (by decide) (fun K hK=>?_)
 have hs26:dv.cell? ⟨af,0,none⟩=some (.int .i64 0):=(blk_cell BK751.out 0).trans rfl
 have hfs26:=blk_frozen BK751.out 0
 obtain ⟨bo,bp,bq,br⟩:=an4_ aa a6 ag ah
 have hs28:dv.cell? ⟨af,1,none⟩=some (.slice none 0 0):=(blk_cell BK751.out 1).trans rfl
 have hfs28:=blk_frozen BK751.out 1
 have hs30:dv.cell? ⟨af,2,none⟩=some (.slice none 0 0):=(blk_cell BK751.out 2).trans rfl
 have hfs30:=blk_frozen BK751.out 2
 refine skip_ (w1:=?_) (by rfl) rfl ?_ ?_
 rotate_left
 ·go_simp
  rfl
 refine hK.out _ _ ⟨(cf_ aa (cf_ aa (cf_ aa hHeld.1))),(cf_ aa (cf_ aa (cf_ aa hHeld.2.1))),(cf_ a6 (cf_ a6 (cf_ a6 hHeld.2.2.1))),(cf_ a6 (cf_ a6 (cf_ a6 hHeld.2.2.2.1))),(cf_ a6 (cf_ a6 (cf_ a6 hHeld.2.2.2.2.1))),(cf_ a6 (cf_ a6 (cf_ a6 hHeld.2.2.2.2.2)))⟩ (fun hHeld=>?_)
 clear hK K
 refine yr_ 11 9 bq_203 HT_ ?_
 refine done_ (done_of HT_.out kr_) ?_
 obtain ⟨cv,cw⟩:=an2_ d9 da
 have fz:=bb2_ BK732.out
 try go_wp2_with (first|((with_reducible refine gate_callee (f:=6) rfl ?_);refine goesL_ (some 33) rfl rfl Tryz.func6 kr_ rfl #[.agg #[.string aw,.slice b8 ar.length b9]] rfl tq_0 ?_;(with_reducible refine (laws_toMemory.calls k aw _ _ ar b1 ak _ ?side1 ?side2 ic.out).mono ?_);(case side1=>exact Kd.C_below HR0_1.out th_);(case side2=>exact cu.out);rintro e le ⟨v754,rfl,ho0,hb⟩;refine ⟨_,rfl,?_⟩;have z_:=p_ (Kd.R_elder' tq_83 (Kd.R_base ho0) hb) <| p_ (Kd.R_below (by (with_reducible repeat (first|apply Kd.R_alloc|apply Kd.R_drewN|apply Kd.R_drew));exact (Kd.R_mono (rR_ (rR_ (rR_ (Kd.R_types HO746.out BK751.out (by decide))))) (fun _ h_=>h_.1))) hb) <| p_ (Kd.S_below (by (with_reducible repeat (first|apply Kd.S_alloc|apply Kd.S_drewN|apply Kd.S_drew));exact (Kd.S_mono (rS_ (rS_ (rS_ (Kd.S_types HO749.out BK751.out (by decide))))) (fun _ h_=>h_.1))) hb) <| p_ (Kd.R_lower (Kd.R_new' ho0 (Kd.R_lt tq_83)) (below_size th_)) <| p_ (blk_below (g:=ae) (o:=.cells #[.string aw,.slice b8 ar.length b9] 24 (0,0)) (fr_ BK732.out aa.out) hb) <| p_ (blk_below (g:=a5) (o:=.cells #[.int .i64 an,.int .i64 ao,.int .i64 ap,.int .i64 aq] 26 (0,0)) (fr_ BK733.out a6.out) hb) <| p_ (blk_below (g:=af) (o:=.cells #[.int .i64 ba,.slice b0 ac.length au,.slice av a9.length ai] 31 (0,0)) (pt_ BK751.out) hb) <| a_ (below_step th_ hb);clear HO738 HO746 HO749 BK732 BK733 BK751 HB;obtain ⟨HO738,HO746,HO749,HO755,BK732,BK733,BK751,HB⟩:=z_;(try clear hb);(try clear hk);(try clear ho0))|((with_reducible refine gate_dst (N:=10) rfl ?_);refine be_ 10 (cs:=#[.string (⟨#[]⟩:ByteArray),.slice none 0 0]) 36 ?_;intro ab hg ec hbox hb;have z_:=p_ (Kd.R_below (raR_ HO738) hb) <| p_ (Kd.R_below (raR_ HO746) hb) <| p_ (Kd.S_below (raS_ HO749) hb) <| p_ (Kd.R_below (raR_ HO755) hb) <| bx3_ (kb_ BK732) (kb_ BK733) (kb_ BK751) th_ hb hbox hg;clear HO738 HO746 HO749 HO755 BK732 BK733 BK751 HB;obtain ⟨HO738,HO746,HO749,HO755,BK732,BK733,BK751,HB,BK756,i4,GE756,db,dc,dd,de,bx,bz⟩:=z_;clear hb hbox hg;obtain ⟨cy,cz,d0,d1,bs,bu⟩:=an6_ dc db de dd bz bx;have g6:=bb2_ BK756.out;obtain ⟨al,am,gs⟩:=Kd.R_slice HO755.out;subst gs))
 have n0_:Aside0 (Kd.R k78 78 ((ec.setCell ⟨ab,0,none⟩ (.string b1)).setCell ⟨ab,1,none⟩ (.slice al ak.length am)) w.heap.size (fun k_=>some k_≠(.slice al ak.length am:Value).ownBlock) v737 bm):=⟨(by (with_reducible repeat (first|apply Kd.R_alloc|apply Kd.R_drewN|apply Kd.R_drew));exact Kd.R_mono (rR_ (rR_ (Kd.R_types HO738.out BK756.out (by decide)))) (fun _ hk=>hk.1.2))⟩
 have n1_:Aside0 (Kd.R (Kd.int .i64) 3 ((ec.setCell ⟨ab,0,none⟩ (.string b1)).setCell ⟨ab,1,none⟩ (.slice al ak.length am)) w.heap.size (fun _=>True) (.slice b0 ac.length au) ac):=⟨(by (with_reducible repeat (first|apply Kd.R_alloc|apply Kd.R_drewN|apply Kd.R_drew));exact Kd.R_mono (rR_ (rR_ (Kd.R_types HO746.out BK756.out (by decide)))) (fun _ hk=>trivial))⟩
 have n2_:Aside0 (Kd.S k62 62 ((ec.setCell ⟨ab,0,none⟩ (.string b1)).setCell ⟨ab,1,none⟩ (.slice al ak.length am)) w.heap.size (fun _=>True) (.slice av a9.length ai) a9):=⟨(by (with_reducible repeat (first|apply Kd.S_alloc|apply Kd.S_drewN|apply Kd.S_drew));exact Kd.S_mono (rS_ (rS_ (Kd.S_types HO749.out BK756.out (by decide)))) (fun _ hk=>trivial))⟩
 have n3_:Aside0 (Kd.R k78 78 ((ec.setCell ⟨ab,0,none⟩ (.string b1)).setCell ⟨ab,1,none⟩ (.slice al ak.length am)) w.heap.size (fun k_=>some k_≠(v737:Value).ownBlock) (.slice al ak.length am) ak):=⟨(by (with_reducible repeat (first|apply Kd.R_alloc|apply Kd.R_drewN|apply Kd.R_drew));exact Kd.R_mono (rR_ (rR_ (Kd.R_types HO755.out BK756.out (by decide)))) (fun _ hk=>hk.1.2))⟩
 have n4_:Aside0 (((ec.setCell ⟨ab,0,none⟩ (.string b1)).setCell ⟨ab,1,none⟩ (.slice al ak.length am)).heap[ae]?=some (.cells #[.string aw,.slice b8 ar.length b9] 24 (0,0))):=⟨tb_⟩
 have n5_:Aside0 (((ec.setCell ⟨ab,0,none⟩ (.string b1)).setCell ⟨ab,1,none⟩ (.slice al ak.length am)).heap[a5]?=some (.cells #[.int .i64 an,.int .i64 ao,.int .i64 ap,.int .i64 aq] 26 (0,0))):=⟨tb_⟩
 have n6_:Aside0 (((ec.setCell ⟨ab,0,none⟩ (.string b1)).setCell ⟨ab,1,none⟩ (.slice al ak.length am)).heap[af]?=some (.cells #[.int .i64 ba,.slice b0 ac.length au,.slice av a9.length ai] 31 (0,0))):=⟨tb_⟩
 have n7_:Aside0 (((ec.setCell ⟨ab,0,none⟩ (.string b1)).setCell ⟨ab,1,none⟩ (.slice al ak.length am)).heap[ab]?=some (.cells #[.string b1,.slice al ak.length am] 36 (0,0))):=⟨tb_⟩
 have n8_:Aside0 (Below w.heap.size w ((ec.setCell ⟨ab,0,none⟩ (.string b1)).setCell ⟨ab,1,none⟩ (.slice al ak.length am))):=⟨th_⟩
 (try clear HO738)
 (try clear HO746)
 (try clear HO749)
 (try clear HO755)
 (try clear BK732)
 (try clear BK733)
 (try clear BK751)
 (try clear BK756)
 (try clear HB)
 generalize ((ec.setCell ⟨ab,0,none⟩ (.string b1)).setCell ⟨ab,1,none⟩ (.slice al ak.length am))=ie at n0_ n1_ n2_ n3_ n4_ n5_ n6_ n7_ n8_ ⊢
 have HO738:=n0_
 have HO746:=n1_
 have HO749:=n2_
 have HO755:=n3_
 have BK732:=n4_
 have BK733:=n5_
 have BK751:=n6_
 have BK756:=n7_
 have HB:=n8_
 clear n0_ n1_ n2_ n3_ n4_ n5_ n6_ n7_ n8_
 have z_:=p_ (Kd.R_drew HO738.out) <| p_ (Kd.R_drew HO746.out) <| p_ (Kd.S_drew HO749.out) <| p_ (Kd.R_drew HO755.out) <| dw4_ BK732 BK733 BK751 BK756 HB
 clear HO738 HO746 HO749 HO755 BK732 BK733 BK751 BK756 HB
 obtain ⟨HO738,HO746,HO749,HO755,BK732,BK733,BK751,BK756,HB⟩:=z_
 refine start_ (n:=11) (S:=fun w'=>w'.cell? ⟨ab,0,none⟩=some (.string b1)∧w'.cell? ⟨ab,1,none⟩=some (.slice al ak.length am)∧w'.cell? ⟨a5,0,none⟩=some (.int .i64 an)∧w'.cell? ⟨a5,1,none⟩=some (.int .i64 ao)∧w'.cell? ⟨a5,2,none⟩=some (.int .i64 ap)∧w'.cell? ⟨a5,3,none⟩=some (.int .i64 aq)) (ds:=[]) bq_70 kr_ rfl rfl (bc2_ BK756.out (bk4_ BK733.out)) (fun hHeld=>?_);refine with_tabW laws_FnExactReadPart.tab7 laws_FnExactReadPart.bits7 (fun HT_ HW_=>?_)
 generalize ie.drew=lf at HO738 HO746 HO749 HO755 BK732 BK733 BK751 BK756 HB hHeld ⊢
 refine yr_ 3 38 #[F_,F_,F_,T_,F_,F_,F_,F_,F_,F_,F_] HT_ ?_
 refine tr_ 0 35 bq_150 HT_ HW_ hHeld ?_
 refine tr_ 1 36 #[T_,T_,F_,T_,F_,F_,F_,F_,F_,F_,F_] HT_ HW_ hHeld ?_
 refine join_ (σ:=Value × Value × Nat) 2 bq_2 (fun s_=>[(37,.agg #[.int .i64 dh,.int .i64 di,.int .i64 dj,.int .i64 dk]),(39,.tuple #[.agg #[.int .i64 t761,s_.1,s_.2.1],.bool dl]),(11,.pointer (some ⟨s_.2.2,0,none⟩)),(34,.tuple #[.agg #[.int .i64 t761,s_.1,s_.2.1],.bool dl]),(40,.agg #[.int .i64 t761,s_.1,s_.2.1]),(41,.bool dl)]) (fun s_ w'=>(w'.cell? ⟨ab,0,none⟩=some (.string b1)∧w'.cell? ⟨ab,1,none⟩=some (.slice al ak.length am)∧w'.cell? ⟨a5,0,none⟩=some (.int .i64 an)∧w'.cell? ⟨a5,1,none⟩=some (.int .i64 ao)∧w'.cell? ⟨a5,2,none⟩=some (.int .i64 ap)∧w'.cell? ⟨a5,3,none⟩=some (.int .i64 aq))∧(Kd.R k78 78 w' w.heap.size (fun k_=>some k_≠(.slice al ak.length am:Value).ownBlock) v737 bm)∧(Kd.R (Kd.int .i64) 3 w' w.heap.size (fun k_=>some k_≠(s_.1:Value).ownBlock) (.slice b0 ac.length au) ac)∧(Kd.S k62 62 w' w.heap.size (fun k_=>some k_≠(s_.2.1:Value).ownBlock) (.slice av a9.length ai) a9)∧(Kd.R k78 78 w' w.heap.size (fun k_=>some k_≠(v737:Value).ownBlock) (.slice al ak.length am) ak)∧(Kd.R (Kd.int .i64) 3 w' w.heap.size (fun k_=>some k_≠(.slice b0 ac.length au:Value).ownBlock) s_.1 t762)∧(Kd.S k62 62 w' w.heap.size (fun k_=>some k_≠(.slice av a9.length ai:Value).ownBlock) s_.2.1 t765)∧(w'.heap[ae]?=some (.cells #[.string aw,.slice b8 ar.length b9] 24 (0,0)))∧(w'.heap[a5]?=some (.cells #[.int .i64 an,.int .i64 ao,.int .i64 ap,.int .i64 aq] 26 (0,0)))∧(w'.heap[af]?=some (.cells #[.int .i64 ba,.slice b0 ac.length au,.slice av a9.length ai] 31 (0,0)))∧(w'.heap[ab]?=some (.cells #[.string b1,.slice al ak.length am] 36 (0,0)))∧(w'.heap[s_.2.2]?=some (.cells #[.int .i64 0,.slice none 0 0,.slice none 0 0] 31 (0,0)))∧(w.heap.size≤s_.2.2)∧(w.heap.size≤s_.2.2)∧(ae≠s_.2.2)∧(s_.2.2≠ae)∧(a5≠s_.2.2)∧(s_.2.2≠a5)∧(af≠s_.2.2)∧(s_.2.2≠af)∧(ab≠s_.2.2)∧(s_.2.2≠ab)∧(Below w.heap.size w w')∧(∃ X_:Nat,(w.heap.size≤X_)∧(Kd.S k62 62 w' w.heap.size (fun k_=>k_ < X_) (.slice av a9.length ai) a9)∧(Kd.S k62 62 w' X_ (fun _=>True) s_.2.1 t765))) ?_ ?_
 rotate_left
 ·intro hCont
  refine two_ (i:=2) (j:=8) (Ni:=some 37) (Nj:=some 11) bq_273 #[T_,T_,F_,T_,F_,F_,F_,F_,T_,F_,F_] rfl rfl rfl rfl (two_of HT_.out kr_) (by decide) (by decide) (fun K hK=>?_) (fun K hK=>?_)
  ·skip
   refine goes_ Tryz.func7 kr_ rfl #[.agg #[.int .i64 an,.int .i64 ao,.int .i64 ap,.int .i64 aq]] (by rfl) rfl rfl tq_0 ?_
   with_reducible refine (laws_toGeo.calls an ao ap aq dh di dj dk _ i1.out).mono ?_
   rintro e ig ⟨rfl,hb⟩
   refine ⟨_,rfl,?_⟩
   have z_:=p_ (Kd.R_below (raR_ HO738) hb) <| p_ (Kd.R_below (raR_ HO746) hb) <| p_ (Kd.S_below (raS_ HO749) hb) <| p_ (Kd.R_below (raR_ HO755) hb) <| bw4_ (kb_ BK732) (kb_ BK733) (kb_ BK751) (kb_ BK756) th_ hb
   clear HO738 HO746 HO749 HO755 BK732 BK733 BK751 BK756 HB
   obtain ⟨HO738,HO746,HO749,HO755,BK732,BK733,BK751,BK756,HB⟩:=z_
   (try clear hb)
   refine hK.out _ _ (bc2_ BK756.out (bk4_ BK733.out)) (fun hHeld=>?_)
   clear hK K
   refine nm_ (some 37) ?_
   refine two_ (i:=4) (j:=8) (Ni:=some 39) (Nj:=some 11) bq_274 bq_288 rfl rfl rfl rfl (two_of HT_.out kr_) (by decide) (by decide) (fun K hK=>?_) (fun K hK=>?_)
   ·skip
    refine goes_ Tryz.func8 kr_ rfl #[.agg #[.string b1,.slice al ak.length am],.agg #[.int .i64 dh,.int .i64 di,.int .i64 dj,.int .i64 dk],.int .i64 a2] (by rfl) rfl rfl tq_0 ?_
    with_reducible refine (impl_ReadPart.calls k b1 _ _ ak dh di dj dk a2 t761 t762 t765 dl _ ?side1 ?side2 gq.out).mono ?_
    (case side1=>exact tq_63)
    (case side2=>exact (Kd.R_reads' HO755.out).2.1)
    rintro e i5 ⟨v763,v766,rfl,ho0,ho1,hb⟩
    refine ⟨_,rfl,?_⟩
    have HA_:=m_ (Kd.S_below (Kd.S_mono (Kd.S_bound (raS_ HO749)) (fun k_ hk_=>hk_.2.2.1)) hb)
    have HG_:=m_ ho1
    have HGL_:=m_ (keep_base ho1 (below_size th_))
    have z_:=p_ (Kd.R_below (raR_ HO738) hb) <| p_ (Kd.R_elder' (raR_ HO746) (Kd.R_base ho0) hb) <| p_ (Kd.S_elder' (raS_ HO749) (Kd.S_base ho1) hb) <| p_ (Kd.R_below (raR_ HO755) hb) <| p_ (Kd.R_lower (Kd.R_new' ho0 (Kd.R_lt (raR_ HO746))) (below_size th_)) <| p_ (Kd.S_lower (Kd.S_new' ho1 (Kd.S_lt (raS_ HO749))) (below_size th_)) <| bw4_ (kb_ BK732) (kb_ BK733) (kb_ BK751) (kb_ BK756) th_ hb
    clear HO738 HO746 HO749 HO755 BK732 BK733 BK751 BK756 HB
    obtain ⟨HO738,HO746,HO749,HO755,HO764,HO767,BK732,BK733,BK751,BK756,HB⟩:=z_
    (try clear hb)
    (try clear ho0)
    (try clear ho1)
    refine hK.out _ _ (bc2_ BK756.out (bk4_ BK733.out)) (fun hHeld=>?_)
    clear hK K
    refine nm_ (some 39) ?_
    refine yr_ 5 34 bq_275 HT_ ?_
    refine yr_ 6 40 bq_276 HT_ ?_
    refine yr_ 7 41 bq_277 HT_ ?_
    refine one_ (i:=8) (N:=some 11) bq_2 rfl rfl (one_of HT_.out kr_) (by decide) (fun K hK=>?_)
    refine box_step ?hg (N:=11) ?hd (cs:=#[.int .i64 0,.slice none 0 0,.slice none 0 0]) (t:=31) ?hr ?_;(case hd=>rfl);(case hg=>rfl);(case hr=>first|(go_simp;done)|(go_simp;rfl))
    intro gb769 hg i6 hbox hb
    have HA2_:=m_ (Kd.S_below (raS_ HA_) hb)
    have HG2_:=m_ (Kd.S_below (raS_ HG_) hb)
    clear HA_ HG_
    have HA_:=HA2_
    have HG_:=HG2_
    clear HA2_ HG2_
    have z_:=p_ (Kd.R_below (raR_ HO738) hb) <| p_ (Kd.R_below (raR_ HO746) hb) <| p_ (Kd.S_below (raS_ HO749) hb) <| p_ (Kd.R_below (raR_ HO755) hb) <| p_ (Kd.R_below (raR_ HO764) hb) <| p_ (Kd.S_below (raS_ HO767) hb) <| bx4_ (kb_ BK732) (kb_ BK733) (kb_ BK751) (kb_ BK756) th_ hb hbox hg
    clear HO738 HO746 HO749 HO755 HO764 HO767 BK732 BK733 BK751 BK756 HB
    obtain ⟨HO738,HO746,HO749,HO755,HO764,HO767,BK732,BK733,BK751,BK756,HB,BK769,df,GE769,NB732_769,ax,NB733_769,ay,NB751_769,aj,NB756_769,b2⟩:=z_
    clear hb hbox hg
    refine hK.out _ _ (bc2_ BK756.out (bk4_ BK733.out)) (fun hHeld=>?_)
    clear hK K
    refine nm_ (some 11) ?_
    exact norm_ tq_10 (hCont (v763,v766,gb769) _ ⟨hHeld,(raR_ HO738),tq_72,tq_70,(raR_ HO755),tq_71,tq_69,(kb_ BK732),(kb_ BK733),(kb_ BK751),(kb_ BK756),(kb_ BK769),df.out,GE769.out,NB732_769.out,ax.out,NB733_769.out,ay.out,NB751_769.out,aj.out,NB756_769.out,b2.out,th_,⟨_,HGL_.out,(raS_ HA_),(raS_ HG_)⟩⟩)
   ·skip
    refine box_step ?hg (N:=11) ?hd (cs:=#[.int .i64 0,.slice none 0 0,.slice none 0 0]) (t:=31) ?hr ?_;(case hd=>rfl);(case hg=>rfl);(case hr=>first|(go_simp;done)|(go_simp;rfl))
    intro gb769 hg i5 hbox hb
    have z_:=p_ (Kd.R_below (raR_ HO738) hb) <| p_ (Kd.R_below (raR_ HO746) hb) <| p_ (Kd.S_below (raS_ HO749) hb) <| p_ (Kd.R_below (raR_ HO755) hb) <| bx4_ (kb_ BK732) (kb_ BK733) (kb_ BK751) (kb_ BK756) th_ hb hbox hg
    clear HO738 HO746 HO749 HO755 BK732 BK733 BK751 BK756 HB
    obtain ⟨HO738,HO746,HO749,HO755,BK732,BK733,BK751,BK756,HB,BK769,df,GE769,NB732_769,ax,NB733_769,ay,NB751_769,aj,NB756_769,b2⟩:=z_
    clear hb hbox hg
    refine hK.out _ _ (bc2_ BK756.out (bk4_ BK733.out)) (fun hHeld=>?_)
    clear hK K
    refine nm_ (some 11) ?_
    refine one_ (i:=4) (N:=some 39) bq_289 rfl rfl (one_of HT_.out kr_) (by decide) (fun K hK=>?_)
    refine goes_ Tryz.func8 kr_ rfl #[.agg #[.string b1,.slice al ak.length am],.agg #[.int .i64 dh,.int .i64 di,.int .i64 dj,.int .i64 dk],.int .i64 a2] (by rfl) rfl rfl tq_0 ?_
    with_reducible refine (impl_ReadPart.calls k b1 _ _ ak dh di dj dk a2 t761 t762 t765 dl _ ?side1 ?side2 gq.out).mono ?_
    (case side1=>exact tq_63)
    (case side2=>exact (Kd.R_reads' HO755.out).2.1)
    rintro e i6 ⟨v763,v766,rfl,ho0,ho1,hb⟩
    refine ⟨_,rfl,?_⟩
    have HA_:=m_ (Kd.S_below (Kd.S_mono (Kd.S_bound (raS_ HO749)) (fun k_ hk_=>hk_.2.2.1)) hb)
    have HG_:=m_ ho1
    have HGL_:=m_ (keep_base ho1 (below_size th_))
    have z_:=p_ (Kd.R_below (raR_ HO738) hb) <| p_ (Kd.R_elder' (raR_ HO746) (Kd.R_base ho0) hb) <| p_ (Kd.S_elder' (raS_ HO749) (Kd.S_base ho1) hb) <| p_ (Kd.R_below (raR_ HO755) hb) <| p_ (Kd.R_lower (Kd.R_new' ho0 (Kd.R_lt (raR_ HO746))) (below_size th_)) <| p_ (Kd.S_lower (Kd.S_new' ho1 (Kd.S_lt (raS_ HO749))) (below_size th_)) <| bw5_ (kb_ BK732) (kb_ BK733) (kb_ BK751) (kb_ BK756) (kb_ BK769) th_ hb
    clear HO738 HO746 HO749 HO755 BK732 BK733 BK751 BK756 BK769 HB
    obtain ⟨HO738,HO746,HO749,HO755,HO764,HO767,BK732,BK733,BK751,BK756,BK769,HB⟩:=z_
    (try clear hb)
    (try clear ho0)
    (try clear ho1)
    refine hK.out _ _ (bc2_ BK756.out (bk4_ BK733.out)) (fun hHeld=>?_)
    clear hK K
    refine nm_ (some 39) ?_
    refine yr_ 5 34 bq_290 HT_ ?_
    refine yr_ 6 40 bq_291 HT_ ?_
    refine yr_ 7 41 bq_2 HT_ ?_
    exact norm_ tq_10 (hCont (v763,v766,gb769) _ ⟨hHeld,(raR_ HO738),tq_72,tq_70,(raR_ HO755),tq_71,tq_69,(kb_ BK732),(kb_ BK733),(kb_ BK751),(kb_ BK756),(kb_ BK769),df.out,GE769.out,NB732_769.out,ax.out,NB733_769.out,ay.out,NB751_769.out,aj.out,NB756_769.out,b2.out,th_,⟨_,HGL_.out,(raS_ HA_),(raS_ HG_)⟩⟩)
  ·skip
   refine box_step ?hg (N:=11) ?hd (cs:=#[.int .i64 0,.slice none 0 0,.slice none 0 0]) (t:=31) ?hr ?_;(case hd=>rfl);(case hg=>rfl);(case hr=>first|(go_simp;done)|(go_simp;rfl))
   intro gb769 hg ig hbox hb
   have z_:=p_ (Kd.R_below (raR_ HO738) hb) <| p_ (Kd.R_below (raR_ HO746) hb) <| p_ (Kd.S_below (raS_ HO749) hb) <| p_ (Kd.R_below (raR_ HO755) hb) <| bx4_ (kb_ BK732) (kb_ BK733) (kb_ BK751) (kb_ BK756) th_ hb hbox hg
   clear HO738 HO746 HO749 HO755 BK732 BK733 BK751 BK756 HB
   obtain ⟨HO738,HO746,HO749,HO755,BK732,BK733,BK751,BK756,HB,BK769,df,GE769,NB732_769,ax,NB733_769,ay,NB751_769,aj,NB756_769,b2⟩:=z_
   clear hb hbox hg
   refine hK.out _ _ (bc2_ BK756.out (bk4_ BK733.out)) (fun hHeld=>?_)
   clear hK K
   refine nm_ (some 11) ?_
   refine one_ (i:=2) (N:=some 37) bq_288 rfl rfl (one_of HT_.out kr_) (by decide) (fun K hK=>?_)
   refine goes_ Tryz.func7 kr_ rfl #[.agg #[.int .i64 an,.int .i64 ao,.int .i64 ap,.int .i64 aq]] (by rfl) rfl rfl tq_0 ?_
   with_reducible refine (laws_toGeo.calls an ao ap aq dh di dj dk _ i1.out).mono ?_
   rintro e i5 ⟨rfl,hb⟩
   refine ⟨_,rfl,?_⟩
   have z_:=p_ (Kd.R_below (raR_ HO738) hb) <| p_ (Kd.R_below (raR_ HO746) hb) <| p_ (Kd.S_below (raS_ HO749) hb) <| p_ (Kd.R_below (raR_ HO755) hb) <| bw5_ (kb_ BK732) (kb_ BK733) (kb_ BK751) (kb_ BK756) (kb_ BK769) th_ hb
   clear HO738 HO746 HO749 HO755 BK732 BK733 BK751 BK756 BK769 HB
   obtain ⟨HO738,HO746,HO749,HO755,BK732,BK733,BK751,BK756,BK769,HB⟩:=z_
   (try clear hb)
   refine hK.out _ _ (bc2_ BK756.out (bk4_ BK733.out)) (fun hHeld=>?_)
   clear hK K
   refine nm_ (some 37) ?_
   refine one_ (i:=4) (N:=some 39) bq_289 rfl rfl (one_of HT_.out kr_) (by decide) (fun K hK=>?_)
   refine goes_ Tryz.func8 kr_ rfl #[.agg #[.string b1,.slice al ak.length am],.agg #[.int .i64 dh,.int .i64 di,.int .i64 dj,.int .i64 dk],.int .i64 a2] (by rfl) rfl rfl tq_0 ?_
   with_reducible refine (impl_ReadPart.calls k b1 _ _ ak dh di dj dk a2 t761 t762 t765 dl _ ?side1 ?side2 gq.out).mono ?_
   (case side1=>exact tq_63)
   (case side2=>exact (Kd.R_reads' HO755.out).2.1)
   rintro e i6 ⟨v763,v766,rfl,ho0,ho1,hb⟩
   refine ⟨_,rfl,?_⟩
   have HA_:=m_ (Kd.S_below (Kd.S_mono (Kd.S_bound (raS_ HO749)) (fun k_ hk_=>hk_.2.2.1)) hb)
   have HG_:=m_ ho1
   have HGL_:=m_ (keep_base ho1 (below_size th_))
   have z_:=p_ (Kd.R_below (raR_ HO738) hb) <| p_ (Kd.R_elder' (raR_ HO746) (Kd.R_base ho0) hb) <| p_ (Kd.S_elder' (raS_ HO749) (Kd.S_base ho1) hb) <| p_ (Kd.R_below (raR_ HO755) hb) <| p_ (Kd.R_lower (Kd.R_new' ho0 (Kd.R_lt (raR_ HO746))) (below_size th_)) <| p_ (Kd.S_lower (Kd.S_new' ho1 (Kd.S_lt (raS_ HO749))) (below_size th_)) <| bw5_ (kb_ BK732) (kb_ BK733) (kb_ BK751) (kb_ BK756) (kb_ BK769) th_ hb
   clear HO738 HO746 HO749 HO755 BK732 BK733 BK751 BK756 BK769 HB
   obtain ⟨HO738,HO746,HO749,HO755,HO764,HO767,BK732,BK733,BK751,BK756,BK769,HB⟩:=z_
   (try clear hb)
   (try clear ho0)
   (try clear ho1)
   refine hK.out _ _ (bc2_ BK756.out (bk4_ BK733.out)) (fun hHeld=>?_)
   clear hK K
   refine nm_ (some 39) ?_
   refine yr_ 5 34 bq_290 HT_ ?_
   refine yr_ 6 40 bq_291 HT_ ?_
   refine yr_ 7 41 bq_2 HT_ ?_
   exact norm_ tq_10 (hCont (v763,v766,gb769) _ ⟨hHeld,(raR_ HO738),tq_72,tq_70,(raR_ HO755),tq_71,tq_69,(kb_ BK732),(kb_ BK733),(kb_ BK751),(kb_ BK756),(kb_ BK769),df.out,GE769.out,NB732_769.out,ax.out,NB733_769.out,ay.out,NB751_769.out,aj.out,NB756_769.out,b2.out,th_,⟨_,HGL_.out,(raS_ HA_),(raS_ HG_)⟩⟩)
 rintro ⟨v763,v766,gb769⟩ d8 ⟨hS_,h0_,h1_,h2_,h3_,h4_,h5_,h6_,h7_,h8_,h9_,h10_,h11_,h12_,h13_,h14_,h15_,h16_,h17_,h18_,h19_,h20_,h21_,X_,HGLx_,HAx_,HGx_⟩
 have HGL_:=m_ HGLx_
 have HA_:=m_ HAx_
 have HG_:=m_ HGx_
 clear HGLx_ HAx_ HGx_
 have z_:=q_ (⟨h0_⟩:Aside0 (Kd.R k78 78 d8 w.heap.size (fun k_=>some k_≠(.slice al ak.length am:Value).ownBlock) v737 bm)) <| q_ (⟨h1_⟩:Aside0 (Kd.R (Kd.int .i64) 3 d8 w.heap.size (fun k_=>some k_≠(v763:Value).ownBlock) (.slice b0 ac.length au) ac)) <| q_ (⟨h2_⟩:Aside0 (Kd.S k62 62 d8 w.heap.size (fun k_=>some k_≠(v766:Value).ownBlock) (.slice av a9.length ai) a9)) <| q_ (⟨h3_⟩:Aside0 (Kd.R k78 78 d8 w.heap.size (fun k_=>some k_≠(v737:Value).ownBlock) (.slice al ak.length am) ak)) <| q_ (⟨h4_⟩:Aside0 (Kd.R (Kd.int .i64) 3 d8 w.heap.size (fun k_=>some k_≠(.slice b0 ac.length au:Value).ownBlock) v763 t762)) <| q_ (⟨h5_⟩:Aside0 (Kd.S k62 62 d8 w.heap.size (fun k_=>some k_≠(.slice av a9.length ai:Value).ownBlock) v766 t765)) <| q_ (⟨h6_⟩:Aside0 (d8.heap[ae]?=some (.cells #[.string aw,.slice b8 ar.length b9] 24 (0,0)))) <| q_ (⟨h7_⟩:Aside0 (d8.heap[a5]?=some (.cells #[.int .i64 an,.int .i64 ao,.int .i64 ap,.int .i64 aq] 26 (0,0)))) <| q_ (⟨h8_⟩:Aside0 (d8.heap[af]?=some (.cells #[.int .i64 ba,.slice b0 ac.length au,.slice av a9.length ai] 31 (0,0)))) <| q_ (⟨h9_⟩:Aside0 (d8.heap[ab]?=some (.cells #[.string b1,.slice al ak.length am] 36 (0,0)))) <| q_ (⟨h10_⟩:Aside0 (d8.heap[gb769]?=some (.cells #[.int .i64 0,.slice none 0 0,.slice none 0 0] 31 (0,0)))) <| q_ (⟨h11_⟩:Aside0 (w.heap.size≤gb769)) <| q_ (⟨h12_⟩:Aside0 (w.heap.size≤gb769)) <| q_ (⟨h13_⟩:Aside0 (ae≠gb769)) <| q_ (⟨h14_⟩:Aside0 (gb769≠ae)) <| q_ (⟨h15_⟩:Aside0 (a5≠gb769)) <| q_ (⟨h16_⟩:Aside0 (gb769≠a5)) <| q_ (⟨h17_⟩:Aside0 (af≠gb769)) <| q_ (⟨h18_⟩:Aside0 (gb769≠af)) <| q_ (⟨h19_⟩:Aside0 (ab≠gb769)) <| q_ (⟨h20_⟩:Aside0 (gb769≠ab)) <| (⟨h21_⟩:Aside0 (Below w.heap.size w d8))
 clear HO738 HO746 HO749 HO755 BK732 BK733 BK751 BK756 HB h0_ h1_ h2_ h3_ h4_ h5_ h6_ h7_ h8_ h9_ h10_ h11_ h12_ h13_ h14_ h15_ h16_ h17_ h18_ h19_ h20_ h21_
 obtain ⟨HO738,HO746,HO749,HO755,HO764,HO767,BK732,BK733,BK751,BK756,BK769,df,GE769,NB732_769,ax,NB733_769,ay,NB751_769,aj,NB756_769,b2,HB⟩:=z_
 have hHeld:d8.cell? ⟨ab,0,none⟩=some (.string b1)∧d8.cell? ⟨ab,1,none⟩=some (.slice al ak.length am)∧d8.cell? ⟨a5,0,none⟩=some (.int .i64 an)∧d8.cell? ⟨a5,1,none⟩=some (.int .i64 ao)∧d8.cell? ⟨a5,2,none⟩=some (.int .i64 ap)∧d8.cell? ⟨a5,3,none⟩=some (.int .i64 aq):=hS_
 obtain ⟨Ao48,co48,g7⟩:=Kd.R_slice HO764.out
 (first|subst g7|(injection g7 with f1_ f2_ f3_;have f4_:=f1_.symm;have f5_:=f3_.symm;clear f1_ f2_ f3_;subst f4_;subst f5_))
 obtain ⟨Ao50,co50,g8⟩:=Kd.S_slice HO767.out
 (first|subst g8|(injection g8 with f1_ f2_ f3_;have f4_:=f1_.symm;have f5_:=f3_.symm;clear f1_ f2_ f3_;subst f4_;subst f5_))
 refine norm_ (a':=?_) ?_ ?_
 rotate_left
 ·simp only [putAll,Act.put,List.setIfInBounds_toArray,List.set_cons_zero,List.set_cons_succ]
  rfl
 refine one_ (i:=9) (N:=none) bq_71 rfl rfl (one_of HT_.out kr_) (by decide) (fun K hK=>?_)
 have hs47:d8.cell? ⟨gb769,0,none⟩=some (.int .i64 0):=(blk_cell BK769.out 0).trans rfl
 have hfs47:=blk_frozen BK769.out 0
 obtain ⟨be,bf,bb,bv,bg,bh,bc,bw⟩:=an8_ NB732_769 NB733_769 NB751_769 NB756_769 ax ay aj b2
 have hs49:d8.cell? ⟨gb769,1,none⟩=some (.slice none 0 0):=(blk_cell BK769.out 1).trans rfl
 have hfs49:=blk_frozen BK769.out 1
 have hs51:d8.cell? ⟨gb769,2,none⟩=some (.slice none 0 0):=(blk_cell BK769.out 2).trans rfl
 have hfs51:=blk_frozen BK769.out 2
 refine skip_ (w1:=?_) (by rfl) rfl ?_ ?_
 rotate_left
 ·go_simp
  rfl
 refine hK.out _ _ ⟨(cf_ NB756_769 (cf_ NB756_769 (cf_ NB756_769 hHeld.1))),(cf_ NB756_769 (cf_ NB756_769 (cf_ NB756_769 hHeld.2.1))),(cf_ NB733_769 (cf_ NB733_769 (cf_ NB733_769 hHeld.2.2.1))),(cf_ NB733_769 (cf_ NB733_769 (cf_ NB733_769 hHeld.2.2.2.1))),(cf_ NB733_769 (cf_ NB733_769 (cf_ NB733_769 hHeld.2.2.2.2.1))),(cf_ NB733_769 (cf_ NB733_769 (cf_ NB733_769 hHeld.2.2.2.2.2)))⟩ (fun hHeld=>?_)
 clear hK K
 refine yr_ 10 12 bq_72 HT_ ?_
 refine done_ (done_of HT_.out kr_) ?_
 go_upto_region 8 with (fail)
 go_cut [50] (fun v50 wc=>∃ (kq:Nat) (dm:Bool),v50=.bool dm∧Aside0 (laws_FnExactReadPart.j0 kq a2 co dl dm aw ar an ao ap aq ba ac a9 b1 ak t761 t762 t765=some r)∧Aside0 (kq≤k)∧Aside0 (Kd.R (Kd.int .i64) 3 wc w.heap.size (fun k_=>some k_≠((.slice Ao48 t762.length co48):Value).ownBlock) (.slice b0 ac.length au) ac)∧Aside0 (Kd.S k62 62 wc w.heap.size (fun k_=>some k_≠((.slice Ao50 t765.length co50):Value).ownBlock) (.slice av a9.length ai) a9)∧Aside0 (Kd.R k78 78 wc w.heap.size (fun _=>True) (.slice al ak.length am) ak)∧Aside0 (Kd.R (Kd.int .i64) 3 wc w.heap.size (fun k_=>some k_≠((.slice b0 ac.length au):Value).ownBlock) (.slice Ao48 t762.length co48) t762)∧Aside0 (Kd.S k62 62 wc w.heap.size (fun k_=>some k_≠((.slice av a9.length ai):Value).ownBlock) (.slice Ao50 t765.length co50) t765)∧Aside0 (wc.heap[ae]?=some (.cells #[.string aw,(.slice b8 ar.length b9)] 24 (0,0)))∧Aside0 (wc.heap[a5]?=some (.cells #[.int .i64 an,.int .i64 ao,.int .i64 ap,.int .i64 aq] 26 (0,0)))∧Aside0 (wc.heap[af]?=some (.cells #[.int .i64 ba,(.slice b0 ac.length au),(.slice av a9.length ai)] 31 (0,0)))∧Aside0 (wc.heap[ab]?=some (.cells #[.string b1,(.slice al ak.length am)] 36 (0,0)))∧Aside0 (wc.heap[gb769]?=some (.cells #[.int .i64 t761,(.slice Ao48 t762.length co48),(.slice Ao50 t765.length co50)] 31 (0,0)))∧Aside0 (Below w.heap.size w wc)∧(∃ X_:Nat,Aside0 (w.heap.size≤X_)∧Aside0 (Kd.S k62 62 wc w.heap.size (fun k_=>k_ < X_) (.slice av a9.length ai) a9)∧Aside0 (Kd.S k62 62 wc X_ (fun _=>True) (.slice Ao50 t765.length co50) t765)))
 case first =>
  have H:=fd.out
  clear fd
  obtain ⟨gt,i7,H⟩:=bd_ H
  by_cases fq:gt=true
  ·subst fq
   rw [if_pos rfl] at H
   have H':=m_ H
   clear H
   have ed:=bb3_ BK769.out
   have ee:=bb3_ BK751.out
   go_wp2_with (first|((with_reducible refine gate_callee (f:=9) rfl ?_);refine goesL_ (some 44) rfl rfl Tryz.func9 kr_ rfl #[.agg #[.int .i64 t761,.slice Ao48 t762.length co48,.slice Ao50 t765.length co50],.agg #[.int .i64 ba,.slice b0 ac.length au,.slice av a9.length ai]] rfl tq_0 ?_;(with_reducible refine (laws_eqPart.calls k t761 _ _ t762 _ _ t765 ba _ _ ac _ _ a9 true _ ?side1 ?side2 ?side3 ?side4 ?side5 ?side6 ?side7 ?side8 i7.out).mono ?_);(case side1=>refine (Kd.R_reads' (e:=3) (base:=w.heap.size) (ok:=fun k_=>some k_≠(.slice b0 ac.length au:Value).ownBlock) (n:=t762.length) (c:=co48) ?_).2.2;exact tq_29);(case side2=>exact (Kd.R_reads' HO764.out).2.1);(case side3=>refine (Kd.S_reads' (e:=62) (base:=w.heap.size) (ok:=fun k_=>some k_≠(.slice av a9.length ai:Value).ownBlock) (n:=t765.length) (c:=co50) ?_).2.2;exact tq_26);(case side4=>exact (Kd.S_reads' HO767.out).2.1);(case side5=>refine (Kd.R_reads' (e:=3) (base:=w.heap.size) (ok:=fun k_=>some k_≠(.slice Ao48 t762.length co48:Value).ownBlock) (n:=ac.length) (c:=au) ?_).2.2;exact tq_30);(case side6=>exact (Kd.R_reads' HO746.out).2.1);(case side7=>refine (Kd.S_reads' (e:=62) (base:=w.heap.size) (ok:=fun k_=>some k_≠(.slice Ao50 t765.length co50:Value).ownBlock) (n:=a9.length) (c:=ai) ?_).2.2;exact tq_27);(case side8=>exact (Kd.S_reads' HO749.out).2.1);rintro e lg ⟨rfl,hb⟩;refine ⟨_,rfl,?_⟩;have HA2_:=m_ (Kd.S_below tq_58 hb);have HG2_:=m_ (Kd.S_below tq_57 hb);clear HA_ HG_;have HA_:=HA2_;have HG_:=HG2_;clear HA2_ HG2_;have z_:=p_ (Kd.R_below tq_82 hb) <| p_ (Kd.R_below tq_30 hb) <| p_ (Kd.S_below tq_27 hb) <| p_ (Kd.R_below tq_81 hb) <| p_ (Kd.R_below tq_29 hb) <| p_ (Kd.S_below tq_26 hb) <| p_ (blk_below (g:=ae) (o:=.cells #[.string aw,.slice b8 ar.length b9] 24 (0,0)) tq_39 hb) <| p_ (blk_below (g:=a5) (o:=.cells #[.int .i64 an,.int .i64 ao,.int .i64 ap,.int .i64 aq] 26 (0,0)) tq_37 hb) <| p_ (blk_below (g:=af) (o:=.cells #[.int .i64 ba,.slice b0 ac.length au,.slice av a9.length ai] 31 (0,0)) tq_35 hb) <| p_ (blk_below (g:=ab) (o:=.cells #[.string b1,.slice al ak.length am] 36 (0,0)) tq_33 hb) <| p_ (blk_below (g:=gb769) (o:=.cells #[.int .i64 t761,.slice Ao48 t762.length co48,.slice Ao50 t765.length co50] 31 (0,0)) tq_18 hb) <| a_ (below_step th_ hb);clear HO738 HO746 HO749 HO755 HO764 HO767 BK732 BK733 BK751 BK756 BK769 HB;obtain ⟨HO738,HO746,HO749,HO755,HO764,HO767,BK732,BK733,BK751,BK756,BK769,HB⟩:=z_;(try clear hb)))
   go_meet
   case rel=>exact ⟨_,((dl != co)),tq_3,H',⟨tq_12⟩,⟨(raR_ HO746)⟩,⟨(raS_ HO749)⟩,⟨tq_113⟩,⟨(raR_ HO764)⟩,⟨(raS_ HO767)⟩,⟨(kb_ BK732)⟩,⟨(kb_ BK733)⟩,⟨(kb_ BK751)⟩,⟨(kb_ BK756)⟩,⟨(kb_ BK769)⟩,⟨th_⟩,⟨_,HGL_,⟨(raS_ HA_)⟩,⟨(raS_ HG_)⟩⟩⟩
  replace fq:=Bool.eq_false_iff.mpr fq
  subst fq
  rw [if_neg nf_] at H
  have H':=m_ H
  clear H
  have ef:=bb3_ BK769.out
  have eh:=bb3_ BK751.out
  go_wp2_with (first|((with_reducible refine gate_callee (f:=9) rfl ?_);refine goesL_ (some 44) rfl rfl Tryz.func9 kr_ rfl #[.agg #[.int .i64 t761,.slice Ao48 t762.length co48,.slice Ao50 t765.length co50],.agg #[.int .i64 ba,.slice b0 ac.length au,.slice av a9.length ai]] rfl tq_0 ?_;(with_reducible refine (laws_eqPart.calls k t761 _ _ t762 _ _ t765 ba _ _ ac _ _ a9 false _ ?side1 ?side2 ?side3 ?side4 ?side5 ?side6 ?side7 ?side8 i7.out).mono ?_);(case side1=>refine (Kd.R_reads' (e:=3) (base:=w.heap.size) (ok:=fun k_=>some k_≠(.slice b0 ac.length au:Value).ownBlock) (n:=t762.length) (c:=co48) ?_).2.2;exact tq_29);(case side2=>exact (Kd.R_reads' HO764.out).2.1);(case side3=>refine (Kd.S_reads' (e:=62) (base:=w.heap.size) (ok:=fun k_=>some k_≠(.slice av a9.length ai:Value).ownBlock) (n:=t765.length) (c:=co50) ?_).2.2;exact tq_26);(case side4=>exact (Kd.S_reads' HO767.out).2.1);(case side5=>refine (Kd.R_reads' (e:=3) (base:=w.heap.size) (ok:=fun k_=>some k_≠(.slice Ao48 t762.length co48:Value).ownBlock) (n:=ac.length) (c:=au) ?_).2.2;exact tq_30);(case side6=>exact (Kd.R_reads' HO746.out).2.1);(case side7=>refine (Kd.S_reads' (e:=62) (base:=w.heap.size) (ok:=fun k_=>some k_≠(.slice Ao50 t765.length co50:Value).ownBlock) (n:=a9.length) (c:=ai) ?_).2.2;exact tq_27);(case side8=>exact (Kd.S_reads' HO749.out).2.1);rintro e lh ⟨rfl,hb⟩;refine ⟨_,rfl,?_⟩;have HA2_:=m_ (Kd.S_below tq_58 hb);have HG2_:=m_ (Kd.S_below tq_57 hb);clear HA_ HG_;have HA_:=HA2_;have HG_:=HG2_;clear HA2_ HG2_;have z_:=p_ (Kd.R_below tq_82 hb) <| p_ (Kd.R_below tq_30 hb) <| p_ (Kd.S_below tq_27 hb) <| p_ (Kd.R_below tq_81 hb) <| p_ (Kd.R_below tq_29 hb) <| p_ (Kd.S_below tq_26 hb) <| p_ (blk_below (g:=ae) (o:=.cells #[.string aw,.slice b8 ar.length b9] 24 (0,0)) tq_39 hb) <| p_ (blk_below (g:=a5) (o:=.cells #[.int .i64 an,.int .i64 ao,.int .i64 ap,.int .i64 aq] 26 (0,0)) tq_37 hb) <| p_ (blk_below (g:=af) (o:=.cells #[.int .i64 ba,.slice b0 ac.length au,.slice av a9.length ai] 31 (0,0)) tq_35 hb) <| p_ (blk_below (g:=ab) (o:=.cells #[.string b1,.slice al ak.length am] 36 (0,0)) tq_33 hb) <| p_ (blk_below (g:=gb769) (o:=.cells #[.int .i64 t761,.slice Ao48 t762.length co48,.slice Ao50 t765.length co50] 31 (0,0)) tq_18 hb) <| a_ (below_step th_ hb);clear HO738 HO746 HO749 HO755 HO764 HO767 BK732 BK733 BK751 BK756 BK769 HB;obtain ⟨HO738,HO746,HO749,HO755,HO764,HO767,BK732,BK733,BK751,BK756,BK769,HB⟩:=z_;(try clear hb)))
  go_meet
  case rel=>exact ⟨_,(true),tq_3,H',⟨tq_12⟩,⟨(raR_ HO746)⟩,⟨(raS_ HO749)⟩,⟨tq_113⟩,⟨(raR_ HO764)⟩,⟨(raS_ HO767)⟩,⟨(kb_ BK732)⟩,⟨(kb_ BK733)⟩,⟨(kb_ BK751)⟩,⟨(kb_ BK756)⟩,⟨(kb_ BK769)⟩,⟨th_⟩,⟨_,HGL_,⟨(raS_ HA_)⟩,⟨(raS_ HG_)⟩⟩⟩
 case rest =>
 clear fd
 try clear p2;try clear c5;try clear c6;try clear c7;try clear c8;try clear c9;try clear fq;try clear ii;try clear ij;try clear ik;try clear il;try clear im;try clear io;try clear ip;try clear iq;try clear ir;try clear iu;try clear iv;try clear iw;try clear ix;try clear iy;try clear ed;try clear ee;try clear ef;try clear eh;try clear ed;try clear ee;try clear ef;try clear eh
 obtain ⟨kq,dm,rfl,HA,HJ17,HO_752001,HO_752002,HO_757001,HO_770001,HO_770002,BK732,BK733,BK751,BK756,BK769,HB,X_,HGL_,HA_,HG_⟩:=hcut
 cases kq with
 | zero=>exact absurd HA.out (by simp [laws_FnExactReadPart.j0])
 | succ kj17 =>
 have H:=HA.out
 clear HA
 simp only [laws_FnExactReadPart.j0] at H
 by_cases g9:dm=true
 ·subst g9
  rw [if_pos rfl] at H
  obtain rfl:=oi_ H
  go_wp2
  go_ret
  exact ⟨tq_1,th_⟩
 replace g9:=Bool.eq_false_iff.mpr g9
 subst g9
 rw [if_neg nf_] at H
 obtain ⟨⟨fe,ff⟩,iz,H⟩:=bd_ H
 try dsimp -simprocs only at H
 obtain ⟨ga,j5,H⟩:=bd_ H
 have gb:=m_ H
 clear H
 try go_wp2
 have HA2_:=m_ (Kd.S_drew HA_.out)
 have HG2_:=m_ (Kd.S_drew HG_.out)
 clear HA_ HG_
 have HA_:=HA2_
 have HG_:=HG2_
 clear HA2_ HG2_
 have z_:=p_ (Kd.R_drew HO_752001.out) <| p_ (Kd.S_drew HO_752002.out) <| p_ (Kd.R_drew HO_757001.out) <| p_ (Kd.R_drew HO_770001.out) <| p_ (Kd.S_drew HO_770002.out) <| dw5_ BK732 BK733 BK751 BK756 BK769 HB
 clear HO_752001 HO_752002 HO_757001 HO_770001 HO_770002 BK732 BK733 BK751 BK756 BK769 HB
 obtain ⟨HO_752001,HO_752002,HO_757001,HO_770001,HO_770002,BK732,BK733,BK751,BK756,BK769,HB⟩:=z_
 refine start_ (n:=5) (S:=fun w'=>w'.cell? ⟨ab,0,none⟩=some (.string b1)∧w'.cell? ⟨ab,1,none⟩=some (.slice al ak.length am)∧w'.cell? ⟨ae,0,none⟩=some (.string aw)∧w'.cell? ⟨ae,1,none⟩=some (.slice b8 ar.length b9)) (ds:=[]) #[F_,F_,F_,F_,F_] kr_ rfl rfl (bc2_ BK756.out (bk2_ BK732.out)) (fun hHeld=>?_)
 generalize wc.drew=li at HA_ HG_ HO_752001 HO_752002 HO_757001 HO_770001 HO_770002 BK732 BK733 BK751 BK756 BK769 HB hHeld ⊢
 refine take_ (i:=0) (N:=some 51) (v:=?_) (a':=?_) #[T_,F_,F_,F_,F_] rfl rfl kr_ (fun _ _ _ h=>h) (Or.inl ⟨(by rfl),?_⟩) hHeld ?_ ?_
 rotate_left
 ·rintro w' ⟨s0,s1,s2,s3⟩
  go_simp
  with_reducible rfl
 rotate_left
 ·simp only [Act.put,List.setIfInBounds_toArray,List.set_cons_zero,List.set_cons_succ,i64_w,i32_w]
  rfl
 refine take_ (i:=1) (N:=some 52) (v:=?_) (a':=?_) #[T_,T_,F_,F_,F_] rfl rfl kr_ (fun _ _ _ h=>h) (Or.inl ⟨(by rfl),?_⟩) hHeld ?_ ?_
 rotate_left
 ·rintro w' ⟨s0,s1,s2,s3⟩
  go_simp
  with_reducible rfl
 rotate_left
 ·simp only [Act.put,List.setIfInBounds_toArray,List.set_cons_zero,List.set_cons_succ,i64_w,i32_w]
  rfl
 refine one_ (i:=2) (N:=some 53) #[T_,T_,T_,F_,F_] rfl rfl kr_ (by decide) (fun K hK=>?_)
 refine goes_ Tryz.func6 kr_ rfl #[.agg #[.string aw,.slice b8 ar.length b9]] (by rfl) rfl rfl tq_0 ?_
 with_reducible refine (laws_toMemory.calls kj17 aw _ _ ar fe ff _ ?side1 ?side2 iz.out).mono ?_
 (case side1=>exact tq_4)
 (case side2=>exact cu.out)
 rintro e lj ⟨v773,rfl,ho0,hb⟩
 refine ⟨_,rfl,?_⟩
 have HA2_:=m_ (Kd.S_below (raS_ HA_) hb)
 have HG2_:=m_ (Kd.S_below (raS_ HG_) hb)
 clear HA_ HG_
 have HA_:=HA2_
 have HG_:=HG2_
 clear HA2_ HG2_
 have z_:=p_ (Kd.R_below (raR_ HO_752001) hb) <| p_ (Kd.S_below (raS_ HO_752002) hb) <| p_ (Kd.R_elder' (raR_ HO_757001) (Kd.R_base ho0) hb) <| p_ (Kd.R_below (raR_ HO_770001) hb) <| p_ (Kd.S_below (raS_ HO_770002) hb) <| p_ (Kd.R_lower (Kd.R_new' ho0 (Kd.R_lt (raR_ HO_757001))) (below_size th_)) <| bw5_ (kb_ BK732) (kb_ BK733) (kb_ BK751) (kb_ BK756) (kb_ BK769) th_ hb
 clear HO_752001 HO_752002 HO_757001 HO_770001 HO_770002 BK732 BK733 BK751 BK756 BK769 HB
 obtain ⟨HO_752001,HO_752002,HO_757001,HO_770001,HO_770002,d2,BK732,BK733,BK751,BK756,BK769,HB⟩:=z_
 (try clear hb)
 (try clear ho0)
 obtain ⟨gu,gv,gc⟩:=Kd.R_slice d2.out
 (first|subst gc|(injection gc with f1_ f2_ f3_;have f4_:=f1_.symm;have f5_:=f3_.symm;clear f1_ f2_ f3_;subst f4_;subst f5_))
 refine hK.out _ _ (bc2_ BK756.out (bk2_ BK732.out)) (fun hHeld=>?_)
 clear hK K
 refine nm_ (some 53) ?_
 refine one_ (i:=3) (N:=some 54) #[T_,T_,T_,T_,F_] rfl rfl kr_ (by decide) (fun K hK=>?_)
 refine goes_ Tryz.func10 kr_ rfl #[.agg #[.string b1,.slice al ak.length am],.agg #[.string fe,.slice gu ff.length gv]] (by rfl) rfl rfl tq_0 ?_
 with_reducible refine (laws_eqMemory.calls kj17 b1 _ _ ak fe _ _ ff ga _ ?side1 ?side2 ?side3 ?side4 j5.out).mono ?_
 (case side1=>repeat (first|exact (Kd.R_reads' HO_757001.out).2.2|(with_reducible refine Kd.C_alloc ?_ _)|(with_reducible refine Kd.C_drewN ?_ _)|(with_reducible refine Kd.C_drew ?_)))
 (case side2=>exact (Kd.R_reads' HO_757001.out).2.1)
 (case side3=>repeat (first|exact (Kd.R_reads' d2.out).2.2|(with_reducible refine Kd.C_alloc ?_ _)|(with_reducible refine Kd.C_drewN ?_ _)|(with_reducible refine Kd.C_drew ?_)))
 (case side4=>exact (Kd.R_reads' d2.out).2.1)
 rintro e lk ⟨rfl,hb⟩
 refine ⟨_,rfl,?_⟩
 have HA2_:=m_ (Kd.S_below (raS_ HA_) hb)
 have HG2_:=m_ (Kd.S_below (raS_ HG_) hb)
 clear HA_ HG_
 have HA_:=HA2_
 have HG_:=HG2_
 clear HA2_ HG2_
 have z_:=p_ (Kd.R_below (raR_ HO_752001) hb) <| p_ (Kd.S_below (raS_ HO_752002) hb) <| p_ (Kd.R_below (raR_ HO_757001) hb) <| p_ (Kd.R_below (raR_ HO_770001) hb) <| p_ (Kd.S_below (raS_ HO_770002) hb) <| p_ (Kd.R_below (raR_ d2) hb) <| bw5_ (kb_ BK732) (kb_ BK733) (kb_ BK751) (kb_ BK756) (kb_ BK769) th_ hb
 clear HO_752001 HO_752002 HO_757001 HO_770001 HO_770002 d2 BK732 BK733 BK751 BK756 BK769 HB
 obtain ⟨HO_752001,HO_752002,HO_757001,HO_770001,HO_770002,d2,BK732,BK733,BK751,BK756,BK769,HB⟩:=z_
 (try clear hb)
 refine hK.out _ _ (bc2_ BK756.out (bk2_ BK732.out)) (fun hHeld=>?_)
 clear hK K
 refine nm_ (some 54) ?_
 refine yq_ (i:=4) (N:=some 55) #[T_,T_,T_,T_,T_] kr_ ?_
 refine done_ kr_ ?_
 go_upto_if 55 with (fail)
 (try clear cv bo cz be cw bp d1 bf bq br bu bb cy d0 bs bv bg bh bc bw)
 (try clear fz)
 (try clear g6)
 (try clear fz)
 (try clear g6)
 have H:=gb.out
 clear gb
 have n_:=m_ (Kd.R_mono (ok':=(fun _=>True)) HO_757001.out (fun k_ hk=>trivial))
 clear HO_757001
 have HO_757001:=n_
 clear n_ d2
 by_cases gd:ga=true
 rotate_left
 ·replace gd:=Bool.eq_false_iff.mpr gd
  subst gd
  rw [if_neg nf_] at H
  obtain rfl:=oi_ H
  go_wp2
  go_ret
  exact ⟨tq_1,th_⟩
 subst gd
 rw [if_pos rfl] at H
 obtain ⟨⟨ge,cc⟩,j6,H⟩:=bd_ H
 try dsimp -simprocs only at H
 have fg:=m_ H
 clear H
 obtain ⟨cy,cz,d0,d1,bs,bu,bv,bw⟩:=an8_ dc db de dd bz bx NB756_769 b2
 have ei:=bb2_ BK756.out
 go_upto_region 14 with (first|((with_reducible refine gate_callee (f:=11) rfl ?_);refine goesL_ (some 58) rfl rfl Tryz.func11 kr_ rfl #[.agg #[.string b1,.slice al ak.length am],.int .i64 1] rfl tq_0 ?_;(with_reducible refine (laws_markMemory.calls kj17 b1 (fun k_=>some k_=(.slice al ak.length am:Value).ownBlock) (.slice al ak.length am) ak 1 ge cc w _ ?side1 ?side2 j6.out).mono ?_);(case side1=>exact tq_68);(case side2=>exact Kd.R_tight rfl HO_757001.out);rintro e ll ⟨rfl,fr,hb,hkp⟩;refine ⟨_,rfl,?_⟩;have HA2_:=m_ (Kd.S_mono (Kd.S_keptB ((Kd.S_apart' HA_.out (Kd.R_typed HO_757001.out) (by decide))) hkp (fun k_ hk_ hs_=>(hk_.2) hs_)) (fun _ h_=>h_.1.1));have HG2_:=m_ (Kd.S_mono (Kd.S_keptB ((Kd.S_apart' HG_.out (Kd.R_typed HO_757001.out) (by decide))) hkp (fun k_ hk_ hs_=>(hk_.2) hs_)) (fun _ h_=>h_.1.1));clear HA_ HG_;have HA_:=HA2_;have HG_:=HG2_;clear HA2_ HG2_;have z_:=p_ (Kd.R_mono (ok':=fun k_=>some k_≠(.slice Ao48 t762.length co48:Value).ownBlock) (Kd.R_keptB ((Kd.R_apart' HO_752001.out (Kd.R_typed HO_757001.out) (by decide))) hkp (fun k_ hk_ hs_=>(hk_.2) hs_)) (fun k_ hk_=>hk_.1.1)) <| p_ (Kd.S_mono (ok':=fun k_=>some k_≠(.slice Ao50 t765.length co50:Value).ownBlock) (Kd.S_keptB ((Kd.S_apart' HO_752002.out (Kd.R_typed HO_757001.out) (by decide))) hkp (fun k_ hk_ hs_=>(hk_.2) hs_)) (fun k_ hk_=>hk_.1.1)) <| p_ (Kd.R_reok rfl fr (fun k_ e_=>HO_757001.out.1 k_ e_)) <| p_ (Kd.R_mono (ok':=fun k_=>some k_≠(.slice b0 ac.length au:Value).ownBlock) (Kd.R_keptB ((Kd.R_apart' HO_770001.out (Kd.R_typed HO_757001.out) (by decide))) hkp (fun k_ hk_ hs_=>(hk_.2) hs_)) (fun k_ hk_=>hk_.1.1)) <| p_ (Kd.S_mono (ok':=fun k_=>some k_≠(.slice av a9.length ai:Value).ownBlock) (Kd.S_keptB ((Kd.S_apart' HO_770002.out (Kd.R_typed HO_757001.out) (by decide))) hkp (fun k_ hk_ hs_=>(hk_.2) hs_)) (fun k_ hk_=>hk_.1.1)) <| p_ (blk_kept (kb_ BK732) hkp (fun hs_=>(fun e_=>(Kd.R_ne HO_757001.out BK732.out (by decide)) e_) hs_)) <| p_ (blk_kept (kb_ BK733) hkp (fun hs_=>(fun e_=>(Kd.R_ne HO_757001.out BK733.out (by decide)) e_) hs_)) <| p_ (blk_kept (kb_ BK751) hkp (fun hs_=>(fun e_=>(Kd.R_ne HO_757001.out BK751.out (by decide)) e_) hs_)) <| p_ (blk_kept (kb_ BK756) hkp (fun hs_=>(fun e_=>(Kd.R_ne HO_757001.out BK756.out (by decide)) e_) hs_)) <| p_ (blk_kept (kb_ BK769) hkp (fun hs_=>(fun e_=>(Kd.R_ne HO_757001.out BK769.out (by decide)) e_) hs_)) <| a_ (hb);clear HO_752001 HO_752002 HO_757001 HO_770001 HO_770002 BK732 BK733 BK751 BK756 BK769 HB;obtain ⟨HO_752001,HO_752002,HO_757001,HO_770001,HO_770002,BK732,BK733,BK751,BK756,BK769,HB⟩:=z_;(try clear hb);(try clear hkp);(try clear fr)))
 (try simp only [Act.put,List.setIfInBounds_toArray,List.set_cons_zero,List.set_cons_succ])
 go_cut [71] (fun v71 wc=>∃ (kq:Nat) (dn:Bool),v71=.bool dn∧Aside0 (laws_FnExactReadPart.j1 kq a2 co dn aw ar an ao ap aq ba ac a9 t761 t762 t765=some r)∧Aside0 (kq≤kj17)∧Aside0 (Kd.R (Kd.int .i64) 3 wc w.heap.size (fun k_=>some k_≠((.slice Ao48 t762.length co48):Value).ownBlock) (.slice b0 ac.length au) ac)∧Aside0 (Kd.S k62 62 wc w.heap.size (fun k_=>some k_≠((.slice Ao50 t765.length co50):Value).ownBlock) (.slice av a9.length ai) a9)∧Aside0 (Kd.R k78 78 wc w.heap.size (fun _=>True) (.slice al ak.length am) cc)∧Aside0 (Kd.R (Kd.int .i64) 3 wc w.heap.size (fun k_=>some k_≠((.slice b0 ac.length au):Value).ownBlock) (.slice Ao48 t762.length co48) t762)∧Aside0 (Kd.S k62 62 wc w.heap.size (fun k_=>some k_≠((.slice av a9.length ai):Value).ownBlock) (.slice Ao50 t765.length co50) t765)∧Aside0 (wc.heap[ae]?=some (.cells #[.string aw,(.slice b8 ar.length b9)] 24 (0,0)))∧Aside0 (wc.heap[a5]?=some (.cells #[.int .i64 an,.int .i64 ao,.int .i64 ap,.int .i64 aq] 26 (0,0)))∧Aside0 (wc.heap[af]?=some (.cells #[.int .i64 ba,(.slice b0 ac.length au),(.slice av a9.length ai)] 31 (0,0)))∧Aside0 (wc.heap[ab]?=some (.cells #[.string b1,(.slice al ak.length am)] 36 (0,0)))∧Aside0 (wc.heap[gb769]?=some (.cells #[.int .i64 t761,(.slice Ao48 t762.length co48),(.slice Ao50 t765.length co50)] 31 (0,0)))∧Aside0 (Below w.heap.size w wc)∧(∃ X_:Nat,Aside0 (w.heap.size≤X_)∧Aside0 (Kd.S k62 62 wc w.heap.size (fun k_=>k_ < X_) (.slice av a9.length ai) a9)∧Aside0 (Kd.S k62 62 wc X_ (fun _=>True) (.slice Ao50 t765.length co50) t765)))
 case first =>
  have H:=fg.out
  clear fg
  by_cases fh:ge < 0
  ·rw [if_pos fh] at H
   have dg:=de_ fh
   clear fh
   (first|rw [dg]|(simp only [i64_w,i32_w];rw [dg])|skip)
   have H':=m_ H
   clear H
   go_wp2
   go_meet
   case rel=>exact ⟨_,(true),tq_3,H',⟨(by have:=HJ17.out;first|omega|exact Nat.le_refl _)⟩,⟨(raR_ HO_752001)⟩,⟨(raS_ HO_752002)⟩,⟨(raR_ HO_757001)⟩,⟨(raR_ HO_770001)⟩,⟨(raS_ HO_770002)⟩,⟨(kb_ BK732)⟩,⟨(kb_ BK733)⟩,⟨(kb_ BK751)⟩,⟨(kb_ BK756)⟩,⟨(kb_ BK769)⟩,⟨th_⟩,⟨_,HGL_,⟨(raS_ HA_)⟩,⟨(raS_ HG_)⟩⟩⟩
  rw [if_neg fh] at H
  have dg:=df_ fh
  clear fh
  (first|rw [dg]|(simp only [i64_w,i32_w];rw [dg])|skip)
  obtain ⟨gw,i8,H⟩:=bd_ H
  by_cases gf:gw=true
  ·subst gf
   rw [if_pos rfl] at H
   have H':=m_ H
   clear H
   obtain ⟨bg,be,bh,bf,bc,bb⟩:=an6_ ax NB732_769 ay NB733_769 aj NB751_769
   have gh:=bb3_ BK769.out
   obtain ⟨bq,bo,br,bp⟩:=an4_ ag aa ah a6
   have ep:=bb3_ BK751.out
   go_wp2_with (first|(go_at_call 9;(with_reducible refine (laws_eqPart.calls kj17 t761 _ _ t762 _ _ t765 ba _ _ ac _ _ a9 true _ ?side1 ?side2 ?side3 ?side4 ?side5 ?side6 ?side7 ?side8 i8.out).mono ?_);(case side1=>exact tq_43);(case side2=>exact (Kd.R_reads' HO_770001.out).2.1);(case side3=>exact tq_42);(case side4=>exact (Kd.S_reads' HO_770002.out).2.1);(case side5=>exact tq_94);(case side6=>exact (Kd.R_reads' HO_752001.out).2.1);(case side7=>exact tq_93);(case side8=>exact (Kd.S_reads' HO_752002.out).2.1);rintro e j7 ⟨rfl,hb⟩;have HA2_:=m_ (Kd.S_below (raS_ HA_) hb);have HG2_:=m_ (Kd.S_below (raS_ HG_) hb);clear HA_ HG_;have HA_:=HA2_;have HG_:=HG2_;clear HA2_ HG2_;have z_:=p_ (Kd.R_below (raR_ HO_752001) hb) <| p_ (Kd.S_below (raS_ HO_752002) hb) <| p_ (Kd.R_below (raR_ HO_757001) hb) <| p_ (Kd.R_below (raR_ HO_770001) hb) <| p_ (Kd.S_below (raS_ HO_770002) hb) <| bw5_ (kb_ BK732) (kb_ BK733) (kb_ BK751) (kb_ BK756) (kb_ BK769) th_ hb;clear HO_752001 HO_752002 HO_757001 HO_770001 HO_770002 BK732 BK733 BK751 BK756 BK769 HB;obtain ⟨HO_752001,HO_752002,HO_757001,HO_770001,HO_770002,BK732,BK733,BK751,BK756,BK769,HB⟩:=z_;(try clear hb)))
   go_meet
   case rel=>exact ⟨_,((dl != co)),tq_3,H',⟨(by have:=HJ17.out;first|omega|exact Nat.le_refl _)⟩,⟨(raR_ HO_752001)⟩,⟨(raS_ HO_752002)⟩,⟨(raR_ HO_757001)⟩,⟨(raR_ HO_770001)⟩,⟨(raS_ HO_770002)⟩,⟨(kb_ BK732)⟩,⟨(kb_ BK733)⟩,⟨(kb_ BK751)⟩,⟨(kb_ BK756)⟩,⟨(kb_ BK769)⟩,⟨th_⟩,⟨_,HGL_,⟨(raS_ HA_)⟩,⟨(raS_ HG_)⟩⟩⟩
  replace gf:=Bool.eq_false_iff.mpr gf
  subst gf
  rw [if_neg nf_] at H
  have H':=m_ H
  clear H
  obtain ⟨bg,be,bh,bf,bc,bb⟩:=an6_ ax NB732_769 ay NB733_769 aj NB751_769
  have eq:=bb3_ BK769.out
  obtain ⟨bq,bo,br,bp⟩:=an4_ ag aa ah a6
  have er:=bb3_ BK751.out
  go_wp2_with (first|(go_at_call 9;(with_reducible refine (laws_eqPart.calls kj17 t761 _ _ t762 _ _ t765 ba _ _ ac _ _ a9 false _ ?side1 ?side2 ?side3 ?side4 ?side5 ?side6 ?side7 ?side8 i8.out).mono ?_);(case side1=>exact tq_43);(case side2=>exact (Kd.R_reads' HO_770001.out).2.1);(case side3=>exact tq_42);(case side4=>exact (Kd.S_reads' HO_770002.out).2.1);(case side5=>exact tq_94);(case side6=>exact (Kd.R_reads' HO_752001.out).2.1);(case side7=>exact tq_93);(case side8=>exact (Kd.S_reads' HO_752002.out).2.1);rintro e j8 ⟨rfl,hb⟩;have HA2_:=m_ (Kd.S_below (raS_ HA_) hb);have HG2_:=m_ (Kd.S_below (raS_ HG_) hb);clear HA_ HG_;have HA_:=HA2_;have HG_:=HG2_;clear HA2_ HG2_;have z_:=p_ (Kd.R_below (raR_ HO_752001) hb) <| p_ (Kd.S_below (raS_ HO_752002) hb) <| p_ (Kd.R_below (raR_ HO_757001) hb) <| p_ (Kd.R_below (raR_ HO_770001) hb) <| p_ (Kd.S_below (raS_ HO_770002) hb) <| bw5_ (kb_ BK732) (kb_ BK733) (kb_ BK751) (kb_ BK756) (kb_ BK769) th_ hb;clear HO_752001 HO_752002 HO_757001 HO_770001 HO_770002 BK732 BK733 BK751 BK756 BK769 HB;obtain ⟨HO_752001,HO_752002,HO_757001,HO_770001,HO_770002,BK732,BK733,BK751,BK756,BK769,HB⟩:=z_;(try clear hb)))
  go_meet
  case rel=>exact ⟨_,(true),tq_3,H',⟨(by have:=HJ17.out;first|omega|exact Nat.le_refl _)⟩,⟨(raR_ HO_752001)⟩,⟨(raS_ HO_752002)⟩,⟨(raR_ HO_757001)⟩,⟨(raR_ HO_770001)⟩,⟨(raS_ HO_770002)⟩,⟨(kb_ BK732)⟩,⟨(kb_ BK733)⟩,⟨(kb_ BK751)⟩,⟨(kb_ BK756)⟩,⟨(kb_ BK769)⟩,⟨th_⟩,⟨_,HGL_,⟨(raS_ HA_)⟩,⟨(raS_ HG_)⟩⟩⟩
 case rest =>
 clear fg
 try clear c1;try clear p2;try clear c5;try clear c6;try clear c7;try clear c8;try clear c9;try clear lm;try clear fc;try clear fq;try clear ii;try clear ij;try clear ik;try clear il;try clear im;try clear io;try clear ip;try clear iq;try clear ir;try clear iu;try clear iv;try clear iw;try clear ix;try clear iy;try clear g9;try clear gd;try clear ln;try clear lo;try clear lp;try clear lq;try clear fh;try clear dg;try clear gf;try clear lr;try clear ls;try clear lt;try clear lu;try clear lv;try clear j9;try clear ja;try clear jb;try clear jc;try clear jd;try clear je;try clear jf;try clear jg;try clear jh;try clear ep;try clear eq;try clear er;try clear ed;try clear ee;try clear ef;try clear eh;try clear ei;try clear gh;try clear ep;try clear eq;try clear er;try clear ed;try clear ee;try clear ef;try clear eh;try clear ei;try clear gh;try clear p2
 obtain ⟨kq,dn,rfl,HA,HJ83,HO_752001,HO_752002,HO_757001,HO_770001,HO_770002,BK732,BK733,BK751,BK756,BK769,HB,X_,HGL_,HA_,HG_⟩:=hcut
 have hl757001_83:=(Kd.R_reads' HO_757001.out).1
 rw [hl757001_83] at HO_757001
 (try simp only [hl757001_83])
 (try simp only [hl757001_83] at BK732)
 (try simp only [hl757001_83] at BK733)
 (try simp only [hl757001_83] at BK751)
 (try simp only [hl757001_83] at BK756)
 (try simp only [hl757001_83] at BK769)
 (try simp only [hl757001_83] at HO_752001)
 (try simp only [hl757001_83] at HO_752002)
 (try simp only [hl757001_83] at HO_770001)
 (try simp only [hl757001_83] at HO_770002)
 cases kq with
 | zero=>exact absurd HA.out (by simp [laws_FnExactReadPart.j1])
 | succ kj83 =>
 have H:=HA.out
 clear HA
 simp only [laws_FnExactReadPart.j1] at H
 by_cases ej:dn=true
 ·subst ej
  rw [if_pos rfl] at H
  obtain rfl:=oi_ H
  go_wp2
  go_ret
  exact ⟨tq_1,th_⟩
 replace ej:=Bool.eq_false_iff.mpr ej
 subst ej
 rw [if_neg nf_] at H
 obtain ⟨⟨ek,d3,d4⟩,gx,H⟩:=bd_ H
 try dsimp -simprocs only at H
 obtain ⟨fi,gy,H⟩:=bd_ H
 have es:=m_ H
 clear H
 obtain ⟨bg,be,bh,bf,bc,bb⟩:=an6_ ax NB732_769 ay NB733_769 aj NB751_769
 have et:=bb3_ BK769.out
 go_upto_if 79 with (first|((with_reducible refine gate_callee (f:=12) rfl ?_);refine goesL_ (some 74) rfl rfl Tryz.func12 kr_ rfl #[.agg #[.int .i64 t761,.slice Ao48 t762.length co48,.slice Ao50 t765.length co50],.int .i64 1] rfl tq_0 ?_;have HY_:=m_ (Kd.S_mono (Kd.S_bound HG_.out) (fun k_ hk_=>And.intro hk_.2.1 hk_.2.2.1));have hs3_:=Kd.S_lower (Kd.S_bound HY_.out) HGL_.out;(with_reducible refine (laws_markPart.calls kj83 t761 (fun k_=>some k_=(.slice Ao48 t762.length co48:Value).ownBlock) (.slice Ao48 t762.length co48) t762 _ (.slice Ao50 t765.length co50) t765 1 ek d3 d4 w _ ?side1 ?side2 hs3_ gx.out).mono ?_);(case side1=>exact tq_68);(case side2=>exact Kd.R_tight rfl HO_770001.out);rintro e ji ⟨rfl,fr,i9,hb,hkp⟩;refine ⟨_,rfl,?_⟩;have n0_:=m_ (Kd.R_mono (ok':=fun k_=>some k_≠(.slice Ao48 t762.length co48:Value).ownBlock) (R_keptT rfl HO_752001.out hkp (fun k_ e_ hs_=>hs_.elim (fun h_=>(by first|exact (HO_752001.out.1 k_ e_.symm) h_|exact (HO_752001.out.1 k_ e_.symm).1 h_|exact (HO_752001.out.1 k_ e_.symm).2 h_)) (fun h_=>by obtain ⟨c_,hc_⟩:=Kd.R_typed HO_752001.out k_ e_.symm;exact ty_no hc_ (by decide) h_.2.2.2))) (fun k_ hk_=>(by first|exact hk_|exact hk_.1|exact hk_.2|exact hk_.1.1|exact hk_.1.2)));have n1_:=m_ (Kd.S_mono (ok':=fun k_=>some k_≠(.slice Ao50 t765.length co50:Value).ownBlock) (keepS HA_.out HO_770001.out (by decide) (fun k_ h_ h2_=>absurd h_ (Nat.not_lt.mpr h2_.1)) hkp) (fun k_ h_=>neT HY_.out ((fun k_ h_ h2_=>absurd h_ (Nat.not_lt.mpr h2_.1)) k_ h_)));have n2_:=m_ (Kd.R_mono (ok':=fun k_=>True) (R_keptT rfl (Kd.R_apart' HO_757001.out (Kd.R_typed HO_770001.out) (by decide)) hkp (fun k_ e_ hs_=>hs_.elim (fun h_=>((Kd.R_apart' HO_757001.out (Kd.R_typed HO_770001.out) (by decide)).1 k_ e_.symm).2 h_) (fun h_=>by obtain ⟨c_,hc_⟩:=Kd.R_typed HO_757001.out k_ e_.symm;exact ty_no hc_ (by decide) h_.2.2.2))) (fun k_ hk_=>trivial));have n3_:=m_ (Kd.R_reok rfl fr (fun k_ e_=>HO_770001.out.1 k_ e_));have n4_:=m_ (Kd.S_mono (ok':=fun k_=>some k_≠(.slice av a9.length ai:Value).ownBlock) (offS i9 fr (by decide)) (fun k_ h_=>neS HA_.out HY_.out (fun k_ h2_ h_=>absurd h_ (Nat.not_lt.mpr h2_.1)) k_ h_));have n5_:=m_ (blk_kept (kb_ BK732) hkp (fun hs_=>Or.elim hs_ (fun e_=>(fun e_=>(Kd.R_ne HO_770001.out BK732.out (by decide)) e_) e_) (fun h_=>ty_no BK732.out (by decide) h_.2.2.2)));have n6_:=m_ (blk_kept (kb_ BK733) hkp (fun hs_=>Or.elim hs_ (fun e_=>(fun e_=>(Kd.R_ne HO_770001.out BK733.out (by decide)) e_) e_) (fun h_=>ty_no BK733.out (by decide) h_.2.2.2)));have n7_:=m_ (blk_kept (kb_ BK751) hkp (fun hs_=>Or.elim hs_ (fun e_=>(fun e_=>(Kd.R_ne HO_770001.out BK751.out (by decide)) e_) e_) (fun h_=>ty_no BK751.out (by decide) h_.2.2.2)));have n8_:=m_ (blk_kept (kb_ BK756) hkp (fun hs_=>Or.elim hs_ (fun e_=>(fun e_=>(Kd.R_ne HO_770001.out BK756.out (by decide)) e_) e_) (fun h_=>ty_no BK756.out (by decide) h_.2.2.2)));have n9_:=m_ (blk_kept (kb_ BK769) hkp (fun hs_=>Or.elim hs_ (fun e_=>(fun e_=>(Kd.R_ne HO_770001.out BK769.out (by decide)) e_) e_) (fun h_=>ty_no BK769.out (by decide) h_.2.2.2)));have n10_:=m_ (hb);clear HO_752001 HO_752002 HO_757001 HO_770001 HO_770002 BK732 BK733 BK751 BK756 BK769 HB;have HO_752001:=n0_;have HO_752002:=n1_;have HO_757001:=n2_;have HO_770001:=n3_;have HO_770002:=n4_;have BK732:=n5_;have BK733:=n6_;have BK751:=n7_;have BK756:=n8_;have BK769:=n9_;have HB:=n10_;clear HA_ HG_ HGL_ HY_ hs3_;clear n0_ n1_ n2_ n3_ n4_ n5_ n6_ n7_ n8_ n9_ n10_;(try clear hb);(try clear hkp);(try clear fr);(try clear i9);have eu:=bb3_ BK769.out)|((with_reducible refine gate_callee (f:=13) rfl ?_);refine goesL_ (some 77) rfl rfl Tryz.func13 kr_ rfl #[.agg #[.int .i64 t761,.slice Ao48 d3.length co48,.slice Ao50 d4.length co50],.int .i64 1] rfl (by (try simp only [List.map_toArray,List.map_cons,List.map_nil]);first|done|(rw [show d3.length=t762.length from (Kd.R_reads' HO_770001.out).1.symm,show d4.length=t765.length from (Kd.S_reads' HO_770002.out).1.symm] <;> rfl)|rfl|(simp only [List.length_drop,List.length_take];rfl)) ?_;(with_reducible refine (laws_heldPart.calls kj83 t761 _ _ d3 _ _ d4 1 fi _ ?side1 ?side2 ?side3 ?side4 gy.out).mono ?_);(case side1=>exact tq_43);(case side2=>rw [show d3.length=t762.length from (Kd.R_reads' HO_770001.out).1.symm];exact (Kd.R_reads' HO_770001.out).2.1);(case side3=>exact tq_42);(case side4=>rw [show d4.length=t765.length from (Kd.S_reads' HO_770002.out).1.symm];exact (Kd.S_reads' HO_770002.out).2.1);rintro e gz ⟨rfl,hb⟩;refine ⟨_,rfl,?_⟩;have z_:=p_ (Kd.R_below (raR_ HO_752001) hb) <| p_ (Kd.S_below (raS_ HO_752002) hb) <| p_ (Kd.R_below (raR_ HO_757001) hb) <| p_ (Kd.R_below (raR_ HO_770001) hb) <| p_ (Kd.S_below (raS_ HO_770002) hb) <| bw5_ (kb_ BK732) (kb_ BK733) (kb_ BK751) (kb_ BK756) (kb_ BK769) th_ hb;clear HO_752001 HO_752002 HO_757001 HO_770001 HO_770002 BK732 BK733 BK751 BK756 BK769 HB;obtain ⟨HO_752001,HO_752002,HO_757001,HO_770001,HO_770002,BK732,BK733,BK751,BK756,BK769,HB⟩:=z_;(try clear hb)))
 (try simp only [Act.put,List.setIfInBounds_toArray,List.set_cons_zero,List.set_cons_succ])
 (try clear cz be d1 bf bu bb cy d0 bs bv bg bh bc bw)
 (try clear et)
 (try clear eu)
 (try clear ei)
 (try clear et)
 (try clear eu)
 (try clear ei)
 have H:=es.out
 clear es
 by_cases dy:fi < 0
 ·rw [if_pos dy] at H
  have d5:=de_ dy
  clear dy
  (first|rw [d5]|(simp only [i64_w,i32_w];rw [d5])|skip)
  obtain rfl:=oi_ H
  go_wp2
  go_ret
  exact ⟨tq_1,th_⟩
 rw [if_neg dy] at H
 have d5:=df_ dy
 clear dy
 (first|rw [d5]|(simp only [i64_w,i32_w];rw [d5])|skip)
 by_cases dw:fi=ek
 rotate_left
 ·rw [if_neg dw] at H
  have fj:=qc_ dw
  have fk:=qd_ dw
  obtain rfl:=oi_ H
  go_wp2
  go_ret
  exact ⟨tq_1,th_⟩
 rw [if_pos dw] at H
 have fj:=qa_ dw
 have fk:=qb_ dw
 clear dw
 obtain ⟨⟨d6,ca⟩,gi,H⟩:=bd_ H
 try dsimp -simprocs only at H
 obtain ⟨⟨cp,cq,cr,ct⟩,fl,H⟩:=bd_ H
 try dsimp -simprocs only at H
 obtain ⟨⟨t791,t792,bi,du⟩,el,H⟩:=bd_ H
 try dsimp -simprocs only at H
 have e0:=m_ H
 clear H
 try go_wp2
 have z_:=p_ (Kd.R_drew HO_752001.out) <| p_ (Kd.S_drew HO_752002.out) <| p_ (Kd.R_drew HO_757001.out) <| p_ (Kd.R_drew HO_770001.out) <| p_ (Kd.S_drew HO_770002.out) <| dw5_ BK732 BK733 BK751 BK756 BK769 HB
 clear HO_752001 HO_752002 HO_757001 HO_770001 HO_770002 BK732 BK733 BK751 BK756 BK769 HB
 obtain ⟨HO_752001,HO_752002,HO_757001,HO_770001,HO_770002,BK732,BK733,BK751,BK756,BK769,HB⟩:=z_
 refine start_ (n:=12) (S:=fun w'=>w'.cell? ⟨ae,0,none⟩=some (.string aw)∧w'.cell? ⟨ae,1,none⟩=some (.slice b8 ar.length b9)∧w'.cell? ⟨a5,0,none⟩=some (.int .i64 an)∧w'.cell? ⟨a5,1,none⟩=some (.int .i64 ao)∧w'.cell? ⟨a5,2,none⟩=some (.int .i64 ap)∧w'.cell? ⟨a5,3,none⟩=some (.int .i64 aq)) (ds:=[]) bq_201 kr_ rfl rfl (bc2_ BK732.out (bk4_ BK733.out)) (fun hHeld=>?_);refine with_tabW laws_FnExactReadPart.tab24 laws_FnExactReadPart.bits24 (fun HT_ HW_=>?_)
 generalize gz.drew=jj at HO_752001 HO_752002 HO_757001 HO_770001 HO_770002 BK732 BK733 BK751 BK756 BK769 HB hHeld ⊢
 refine yr_ 4 88 bq_278 HT_ ?_
 refine tr_ 0 84 bq_279 HT_ HW_ hHeld ?_
 refine tr_ 2 86 bq_280 HT_ HW_ hHeld ?_
 refine join_ (σ:=Value × Value × Value × Nat) 2 bq_1 (fun s_=>[(85,.agg #[.string d6,s_.1]),(87,.agg #[.int .i64 cp,.int .i64 cq,.int .i64 cr,.int .i64 ct]),(89,.tuple #[.agg #[.int .i64 t791,s_.2.1,s_.2.2.1],.bool du]),(16,.pointer (some ⟨s_.2.2.2,0,none⟩)),(83,.tuple #[.agg #[.int .i64 t791,s_.2.1,s_.2.2.1],.bool du]),(90,.agg #[.int .i64 t791,s_.2.1,s_.2.2.1]),(91,.bool du)]) (fun s_ w'=>(w'.cell? ⟨ae,0,none⟩=some (.string aw)∧w'.cell? ⟨ae,1,none⟩=some (.slice b8 ar.length b9)∧w'.cell? ⟨a5,0,none⟩=some (.int .i64 an)∧w'.cell? ⟨a5,1,none⟩=some (.int .i64 ao)∧w'.cell? ⟨a5,2,none⟩=some (.int .i64 ap)∧w'.cell? ⟨a5,3,none⟩=some (.int .i64 aq))∧(Kd.R k78 78 w' w.heap.size (fun k_=>some k_≠(.slice al cc.length am:Value).ownBlock) s_.1 ca)∧(Kd.R (Kd.int .i64) 3 w' w.heap.size (fun k_=>some k_≠(.slice b0 ac.length au:Value).ownBlock∧some k_≠(.slice Ao48 t762.length co48:Value).ownBlock) s_.2.1 t792)∧(Kd.S k62 62 w' w.heap.size (fun k_=>some k_≠(.slice av a9.length ai:Value).ownBlock∧some k_≠(.slice Ao50 t765.length co50:Value).ownBlock) s_.2.2.1 bi)∧(Kd.R (Kd.int .i64) 3 w' w.heap.size (fun k_=>some k_≠(s_.2.1:Value).ownBlock∧some k_≠(.slice Ao48 t762.length co48:Value).ownBlock) (.slice b0 ac.length au) ac)∧(Kd.S k62 62 w' w.heap.size (fun k_=>some k_≠(s_.2.2.1:Value).ownBlock∧some k_≠(.slice Ao50 t765.length co50:Value).ownBlock) (.slice av a9.length ai) a9)∧(Kd.R k78 78 w' w.heap.size (fun k_=>some k_≠(s_.1:Value).ownBlock) (.slice al cc.length am) cc)∧(Kd.R (Kd.int .i64) 3 w' w.heap.size (fun k_=>some k_≠(s_.2.1:Value).ownBlock∧some k_≠(.slice b0 ac.length au:Value).ownBlock) (.slice Ao48 t762.length co48) d3)∧(Kd.S k62 62 w' w.heap.size (fun k_=>some k_≠(s_.2.2.1:Value).ownBlock∧some k_≠(.slice av a9.length ai:Value).ownBlock) (.slice Ao50 t765.length co50) d4)∧(w'.heap[ae]?=some (.cells #[.string aw,.slice b8 ar.length b9] 24 (0,0)))∧(w'.heap[a5]?=some (.cells #[.int .i64 an,.int .i64 ao,.int .i64 ap,.int .i64 aq] 26 (0,0)))∧(w'.heap[af]?=some (.cells #[.int .i64 ba,.slice b0 ac.length au,.slice av a9.length ai] 31 (0,0)))∧(w'.heap[ab]?=some (.cells #[.string b1,.slice al cc.length am] 36 (0,0)))∧(w'.heap[gb769]?=some (.cells #[.int .i64 t761,.slice Ao48 t762.length co48,.slice Ao50 t765.length co50] 31 (0,0)))∧(w'.heap[s_.2.2.2]?=some (.cells #[.int .i64 0,.slice none 0 0,.slice none 0 0] 31 (0,0)))∧(w.heap.size≤s_.2.2.2)∧(w.heap.size≤s_.2.2.2)∧(ae≠s_.2.2.2)∧(s_.2.2.2≠ae)∧(a5≠s_.2.2.2)∧(s_.2.2.2≠a5)∧(af≠s_.2.2.2)∧(s_.2.2.2≠af)∧(ab≠s_.2.2.2)∧(s_.2.2.2≠ab)∧(gb769≠s_.2.2.2)∧(s_.2.2.2≠gb769)∧(Below w.heap.size w w')) ?_ ?_
 rotate_left
 ·intro hCont
  refine two_ (i:=1) (j:=9) (Ni:=some 85) (Nj:=some 16) bq_281 bq_282 rfl rfl rfl rfl (two_of HT_.out kr_) (by decide) (by decide) (fun K hK=>?_) (fun K hK=>?_)
  ·skip
   refine goes_ Tryz.func6 kr_ rfl #[.agg #[.string aw,.slice b8 ar.length b9]] (by rfl) rfl rfl tq_0 ?_
   with_reducible refine (laws_toMemory.calls kj83 aw _ _ ar d6 ca _ ?side1 ?side2 gi.out).mono ?_
   (case side1=>exact tq_4)
   (case side2=>exact cu.out)
   rintro e h8 ⟨v785,rfl,ho0,hb⟩
   refine ⟨_,rfl,?_⟩
   have z_:=p_ (Kd.R_below (raR_ HO_752001) hb) <| p_ (Kd.S_below (raS_ HO_752002) hb) <| p_ (Kd.R_elder' (raR_ HO_757001) (Kd.R_base ho0) hb) <| p_ (Kd.R_below (raR_ HO_770001) hb) <| p_ (Kd.S_below (raS_ HO_770002) hb) <| p_ (Kd.R_lower (Kd.R_new' ho0 (Kd.R_lt (raR_ HO_757001))) (below_size th_)) <| bw5_ (kb_ BK732) (kb_ BK733) (kb_ BK751) (kb_ BK756) (kb_ BK769) th_ hb
   clear HO_752001 HO_752002 HO_757001 HO_770001 HO_770002 BK732 BK733 BK751 BK756 BK769 HB
   obtain ⟨HO_752001,HO_752002,HO_757001,HO_770001,HO_770002,HO786,BK732,BK733,BK751,BK756,BK769,HB⟩:=z_
   (try clear hb)
   (try clear ho0)
   refine hK.out _ _ (bc2_ BK732.out (bk4_ BK733.out)) (fun hHeld=>?_)
   clear hK K
   refine nm_ (some 85) ?_
   refine two_ (i:=3) (j:=9) (Ni:=some 87) (Nj:=some 16) bq_283 bq_142 rfl rfl rfl rfl (two_of HT_.out kr_) (by decide) (by decide) (fun K hK=>?_) (fun K hK=>?_)
   ·skip
    refine goes_ Tryz.func7 kr_ rfl #[.agg #[.int .i64 an,.int .i64 ao,.int .i64 ap,.int .i64 aq]] (by rfl) rfl rfl tq_0 ?_
    with_reducible refine (laws_toGeo.calls an ao ap aq cp cq cr ct _ fl.out).mono ?_
    rintro e gj ⟨rfl,hb⟩
    refine ⟨_,rfl,?_⟩
    have z_:=p_ (Kd.R_below (raR_ HO_752001) hb) <| p_ (Kd.S_below (raS_ HO_752002) hb) <| p_ (Kd.R_below (raR_ HO_757001) hb) <| p_ (Kd.R_below (raR_ HO_770001) hb) <| p_ (Kd.S_below (raS_ HO_770002) hb) <| p_ (Kd.R_below (raR_ HO786) hb) <| bw5_ (kb_ BK732) (kb_ BK733) (kb_ BK751) (kb_ BK756) (kb_ BK769) th_ hb
    clear HO_752001 HO_752002 HO_757001 HO_770001 HO_770002 HO786 BK732 BK733 BK751 BK756 BK769 HB
    obtain ⟨HO_752001,HO_752002,HO_757001,HO_770001,HO_770002,HO786,BK732,BK733,BK751,BK756,BK769,HB⟩:=z_
    (try clear hb)
    obtain ⟨ev,ew,ex⟩:=Kd.R_slice HO786.out
    (first|subst ex|(injection ex with f1_ f2_ f3_;have f4_:=f1_.symm;have f5_:=f3_.symm;clear f1_ f2_ f3_;subst f4_;subst f5_))
    refine hK.out _ _ (bc2_ BK732.out (bk4_ BK733.out)) (fun hHeld=>?_)
    clear hK K
    refine nm_ (some 87) ?_
    refine two_ (i:=5) (j:=9) (Ni:=some 89) (Nj:=some 16) bq_284 bq_25 rfl rfl rfl rfl (two_of HT_.out kr_) (by decide) (by decide) (fun K hK=>?_) (fun K hK=>?_)
    ·skip
     refine goes_ Tryz.func8 kr_ rfl #[.agg #[.string d6,.slice ev ca.length ew],.agg #[.int .i64 cp,.int .i64 cq,.int .i64 cr,.int .i64 ct],.int .i64 a2] (by rfl) rfl rfl tq_0 ?_
     with_reducible refine (impl_ReadPart.calls kj83 d6 _ _ ca cp cq cr ct a2 t791 t792 bi du _ ?side1 ?side2 el.out).mono ?_
     (case side1=>exact tq_44)
     (case side2=>exact (Kd.R_reads' HO786.out).2.1)
     rintro e jk ⟨v793,v796,rfl,ho0,ho1,hb⟩
     refine ⟨_,rfl,?_⟩
     have z_:=p_ (Kd.R_elder' (raR_ HO_752001) (Kd.R_base ho0) hb) <| p_ (Kd.S_elder' (raS_ HO_752002) (Kd.S_base ho1) hb) <| p_ (Kd.R_below (raR_ HO_757001) hb) <| p_ (Kd.R_elder' (raR_ HO_770001) (Kd.R_base ho0) hb) <| p_ (Kd.S_elder' (raS_ HO_770002) (Kd.S_base ho1) hb) <| p_ (Kd.R_below (raR_ HO786) hb) <| p_ (Kd.R_lower (Kd.R_new' (Kd.R_new' ho0 (Kd.R_lt (raR_ HO_752001))) (Kd.R_lt (raR_ HO_770001))) (below_size th_)) <| p_ (Kd.S_lower (Kd.S_new' (Kd.S_new' ho1 (Kd.S_lt (raS_ HO_752002))) (Kd.S_lt (raS_ HO_770002))) (below_size th_)) <| bw5_ (kb_ BK732) (kb_ BK733) (kb_ BK751) (kb_ BK756) (kb_ BK769) th_ hb
     clear HO_752001 HO_752002 HO_757001 HO_770001 HO_770002 HO786 BK732 BK733 BK751 BK756 BK769 HB
     obtain ⟨HO_752001,HO_752002,HO_757001,HO_770001,HO_770002,HO786,HO794,HO797,BK732,BK733,BK751,BK756,BK769,HB⟩:=z_
     (try clear hb)
     (try clear ho0)
     (try clear ho1)
     refine hK.out _ _ (bc2_ BK732.out (bk4_ BK733.out)) (fun hHeld=>?_)
     clear hK K
     refine nm_ (some 89) ?_
     refine yr_ 6 83 bq_285 HT_ ?_
     refine yr_ 7 90 bq_286 HT_ ?_
     refine yr_ 8 91 bq_287 HT_ ?_
     refine one_ (i:=9) (N:=some 16) bq_1 rfl rfl (one_of HT_.out kr_) (by decide) (fun K hK=>?_)
     refine box_step ?hg (N:=16) ?hd (cs:=#[.int .i64 0,.slice none 0 0,.slice none 0 0]) (t:=31) ?hr ?_;(case hd=>rfl);(case hg=>rfl);(case hr=>first|(go_simp;done)|(go_simp;rfl))
     intro az hg fm hbox hb
     have z_:=p_ (Kd.R_below (raR_ HO_752001) hb) <| p_ (Kd.S_below (raS_ HO_752002) hb) <| p_ (Kd.R_below (raR_ HO_757001) hb) <| p_ (Kd.R_below (raR_ HO_770001) hb) <| p_ (Kd.S_below (raS_ HO_770002) hb) <| p_ (Kd.R_below (raR_ HO786) hb) <| p_ (Kd.R_below (raR_ HO794) hb) <| p_ (Kd.S_below (raS_ HO797) hb) <| bx5_ (kb_ BK732) (kb_ BK733) (kb_ BK751) (kb_ BK756) (kb_ BK769) th_ hb hbox hg
     clear HO_752001 HO_752002 HO_757001 HO_770001 HO_770002 HO786 HO794 HO797 BK732 BK733 BK751 BK756 BK769 HB
     obtain ⟨HO_752001,HO_752002,HO_757001,HO_770001,HO_770002,HO786,HO794,HO797,BK732,BK733,BK751,BK756,BK769,HB,BK799,cf,cg,NB732_799,b3,NB733_799,b4,NB751_799,b5,NB756_799,b6,NB769_799,b7⟩:=z_
     clear hb hbox hg
     refine hK.out _ _ (bc2_ BK732.out (bk4_ BK733.out)) (fun hHeld=>?_)
     clear hK K
     refine nm_ (some 16) ?_
     exact norm_ tq_10 (hCont (.slice ev ca.length ew,v793,v796,az) _ ⟨hHeld,tq_60,tq_56,tq_55,tq_54,tq_52,tq_59,tq_53,tq_51,(kb_ BK732),(kb_ BK733),(kb_ BK751),(kb_ BK756),(kb_ BK769),(kb_ BK799),cf.out,cg.out,NB732_799.out,b3.out,NB733_799.out,b4.out,NB751_799.out,b5.out,NB756_799.out,b6.out,NB769_799.out,b7.out,th_⟩)
    ·skip
     refine box_step ?hg (N:=16) ?hd (cs:=#[.int .i64 0,.slice none 0 0,.slice none 0 0]) (t:=31) ?hr ?_;(case hd=>rfl);(case hg=>rfl);(case hr=>first|(go_simp;done)|(go_simp;rfl))
     intro az hg gl hbox hb
     have z_:=p_ (Kd.R_below (raR_ HO_752001) hb) <| p_ (Kd.S_below (raS_ HO_752002) hb) <| p_ (Kd.R_below (raR_ HO_757001) hb) <| p_ (Kd.R_below (raR_ HO_770001) hb) <| p_ (Kd.S_below (raS_ HO_770002) hb) <| p_ (Kd.R_below (raR_ HO786) hb) <| bx5_ (kb_ BK732) (kb_ BK733) (kb_ BK751) (kb_ BK756) (kb_ BK769) th_ hb hbox hg
     clear HO_752001 HO_752002 HO_757001 HO_770001 HO_770002 HO786 BK732 BK733 BK751 BK756 BK769 HB
     obtain ⟨HO_752001,HO_752002,HO_757001,HO_770001,HO_770002,HO786,BK732,BK733,BK751,BK756,BK769,HB,BK799,cf,cg,NB732_799,b3,NB733_799,b4,NB751_799,b5,NB756_799,b6,NB769_799,b7⟩:=z_
     clear hb hbox hg
     obtain ⟨ch,ci,cj⟩:=Kd.R_slice HO786.out
     (first|subst cj|(injection cj with f1_ f2_ f3_;have f4_:=f1_.symm;have f5_:=f3_.symm;clear f1_ f2_ f3_;subst f4_;subst f5_))
     refine hK.out _ _ (bc2_ BK732.out (bk4_ BK733.out)) (fun hHeld=>?_)
     clear hK K
     refine nm_ (some 16) ?_
     refine one_ (i:=5) (N:=some 89) bq_26 rfl rfl (one_of HT_.out kr_) (by decide) (fun K hK=>?_)
     refine goes_ Tryz.func8 kr_ rfl #[.agg #[.string d6,.slice ch ca.length ci],.agg #[.int .i64 cp,.int .i64 cq,.int .i64 cr,.int .i64 ct],.int .i64 a2] (by rfl) rfl rfl tq_0 ?_
     with_reducible refine (impl_ReadPart.calls kj83 d6 _ _ ca cp cq cr ct a2 t791 t792 bi du _ ?side1 ?side2 el.out).mono ?_
     (case side1=>exact tq_44)
     (case side2=>exact (Kd.R_reads' HO786.out).2.1)
     rintro e fm ⟨v793,v796,rfl,ho0,ho1,hb⟩
     refine ⟨_,rfl,?_⟩
     have z_:=p_ (Kd.R_elder' (raR_ HO_752001) (Kd.R_base ho0) hb) <| p_ (Kd.S_elder' (raS_ HO_752002) (Kd.S_base ho1) hb) <| p_ (Kd.R_below (raR_ HO_757001) hb) <| p_ (Kd.R_elder' (raR_ HO_770001) (Kd.R_base ho0) hb) <| p_ (Kd.S_elder' (raS_ HO_770002) (Kd.S_base ho1) hb) <| p_ (Kd.R_below (raR_ HO786) hb) <| p_ (Kd.R_lower (Kd.R_new' (Kd.R_new' ho0 (Kd.R_lt (raR_ HO_752001))) (Kd.R_lt (raR_ HO_770001))) (below_size th_)) <| p_ (Kd.S_lower (Kd.S_new' (Kd.S_new' ho1 (Kd.S_lt (raS_ HO_752002))) (Kd.S_lt (raS_ HO_770002))) (below_size th_)) <| bw6_ (kb_ BK732) (kb_ BK733) (kb_ BK751) (kb_ BK756) (kb_ BK769) (kb_ BK799) th_ hb
     clear HO_752001 HO_752002 HO_757001 HO_770001 HO_770002 HO786 BK732 BK733 BK751 BK756 BK769 BK799 HB
     obtain ⟨HO_752001,HO_752002,HO_757001,HO_770001,HO_770002,HO786,HO794,HO797,BK732,BK733,BK751,BK756,BK769,BK799,HB⟩:=z_
     (try clear hb)
     (try clear ho0)
     (try clear ho1)
     refine hK.out _ _ (bc2_ BK732.out (bk4_ BK733.out)) (fun hHeld=>?_)
     clear hK K
     refine nm_ (some 89) ?_
     refine yr_ 6 83 bq_27 HT_ ?_
     refine yr_ 7 90 bq_28 HT_ ?_
     refine yr_ 8 91 bq_1 HT_ ?_
     exact norm_ tq_10 (hCont (.slice ch ca.length ci,v793,v796,az) _ ⟨hHeld,tq_60,tq_56,tq_55,tq_54,tq_52,tq_59,tq_53,tq_51,(kb_ BK732),(kb_ BK733),(kb_ BK751),(kb_ BK756),(kb_ BK769),(kb_ BK799),cf.out,cg.out,NB732_799.out,b3.out,NB733_799.out,b4.out,NB751_799.out,b5.out,NB756_799.out,b6.out,NB769_799.out,b7.out,th_⟩)
   ·skip
    refine box_step ?hg (N:=16) ?hd (cs:=#[.int .i64 0,.slice none 0 0,.slice none 0 0]) (t:=31) ?hr ?_;(case hd=>rfl);(case hg=>rfl);(case hr=>first|(go_simp;done)|(go_simp;rfl))
    intro az hg gj hbox hb
    have z_:=p_ (Kd.R_below (raR_ HO_752001) hb) <| p_ (Kd.S_below (raS_ HO_752002) hb) <| p_ (Kd.R_below (raR_ HO_757001) hb) <| p_ (Kd.R_below (raR_ HO_770001) hb) <| p_ (Kd.S_below (raS_ HO_770002) hb) <| p_ (Kd.R_below (raR_ HO786) hb) <| bx5_ (kb_ BK732) (kb_ BK733) (kb_ BK751) (kb_ BK756) (kb_ BK769) th_ hb hbox hg
    clear HO_752001 HO_752002 HO_757001 HO_770001 HO_770002 HO786 BK732 BK733 BK751 BK756 BK769 HB
    obtain ⟨HO_752001,HO_752002,HO_757001,HO_770001,HO_770002,HO786,BK732,BK733,BK751,BK756,BK769,HB,BK799,cf,cg,NB732_799,b3,NB733_799,b4,NB751_799,b5,NB756_799,b6,NB769_799,b7⟩:=z_
    clear hb hbox hg
    refine hK.out _ _ (bc2_ BK732.out (bk4_ BK733.out)) (fun hHeld=>?_)
    clear hK K
    refine nm_ (some 16) ?_
    refine one_ (i:=3) (N:=some 87) bq_25 rfl rfl (one_of HT_.out kr_) (by decide) (fun K hK=>?_)
    refine goes_ Tryz.func7 kr_ rfl #[.agg #[.int .i64 an,.int .i64 ao,.int .i64 ap,.int .i64 aq]] (by rfl) rfl rfl tq_0 ?_
    with_reducible refine (laws_toGeo.calls an ao ap aq cp cq cr ct _ fl.out).mono ?_
    rintro e gl ⟨rfl,hb⟩
    refine ⟨_,rfl,?_⟩
    have z_:=p_ (Kd.R_below (raR_ HO_752001) hb) <| p_ (Kd.S_below (raS_ HO_752002) hb) <| p_ (Kd.R_below (raR_ HO_757001) hb) <| p_ (Kd.R_below (raR_ HO_770001) hb) <| p_ (Kd.S_below (raS_ HO_770002) hb) <| p_ (Kd.R_below (raR_ HO786) hb) <| bw6_ (kb_ BK732) (kb_ BK733) (kb_ BK751) (kb_ BK756) (kb_ BK769) (kb_ BK799) th_ hb
    clear HO_752001 HO_752002 HO_757001 HO_770001 HO_770002 HO786 BK732 BK733 BK751 BK756 BK769 BK799 HB
    obtain ⟨HO_752001,HO_752002,HO_757001,HO_770001,HO_770002,HO786,BK732,BK733,BK751,BK756,BK769,BK799,HB⟩:=z_
    (try clear hb)
    obtain ⟨ch,ci,cj⟩:=Kd.R_slice HO786.out
    (first|subst cj|(injection cj with f1_ f2_ f3_;have f4_:=f1_.symm;have f5_:=f3_.symm;clear f1_ f2_ f3_;subst f4_;subst f5_))
    refine hK.out _ _ (bc2_ BK732.out (bk4_ BK733.out)) (fun hHeld=>?_)
    clear hK K
    refine nm_ (some 87) ?_
    refine one_ (i:=5) (N:=some 89) bq_26 rfl rfl (one_of HT_.out kr_) (by decide) (fun K hK=>?_)
    refine goes_ Tryz.func8 kr_ rfl #[.agg #[.string d6,.slice ch ca.length ci],.agg #[.int .i64 cp,.int .i64 cq,.int .i64 cr,.int .i64 ct],.int .i64 a2] (by rfl) rfl rfl tq_0 ?_
    with_reducible refine (impl_ReadPart.calls kj83 d6 _ _ ca cp cq cr ct a2 t791 t792 bi du _ ?side1 ?side2 el.out).mono ?_
    (case side1=>exact tq_44)
    (case side2=>exact (Kd.R_reads' HO786.out).2.1)
    rintro e fm ⟨v793,v796,rfl,ho0,ho1,hb⟩
    refine ⟨_,rfl,?_⟩
    have z_:=p_ (Kd.R_elder' (raR_ HO_752001) (Kd.R_base ho0) hb) <| p_ (Kd.S_elder' (raS_ HO_752002) (Kd.S_base ho1) hb) <| p_ (Kd.R_below (raR_ HO_757001) hb) <| p_ (Kd.R_elder' (raR_ HO_770001) (Kd.R_base ho0) hb) <| p_ (Kd.S_elder' (raS_ HO_770002) (Kd.S_base ho1) hb) <| p_ (Kd.R_below (raR_ HO786) hb) <| p_ (Kd.R_lower (Kd.R_new' (Kd.R_new' ho0 (Kd.R_lt (raR_ HO_752001))) (Kd.R_lt (raR_ HO_770001))) (below_size th_)) <| p_ (Kd.S_lower (Kd.S_new' (Kd.S_new' ho1 (Kd.S_lt (raS_ HO_752002))) (Kd.S_lt (raS_ HO_770002))) (below_size th_)) <| bw6_ (kb_ BK732) (kb_ BK733) (kb_ BK751) (kb_ BK756) (kb_ BK769) (kb_ BK799) th_ hb
    clear HO_752001 HO_752002 HO_757001 HO_770001 HO_770002 HO786 BK732 BK733 BK751 BK756 BK769 BK799 HB
    obtain ⟨HO_752001,HO_752002,HO_757001,HO_770001,HO_770002,HO786,HO794,HO797,BK732,BK733,BK751,BK756,BK769,BK799,HB⟩:=z_
    (try clear hb)
    (try clear ho0)
    (try clear ho1)
    refine hK.out _ _ (bc2_ BK732.out (bk4_ BK733.out)) (fun hHeld=>?_)
    clear hK K
    refine nm_ (some 89) ?_
    refine yr_ 6 83 bq_27 HT_ ?_
    refine yr_ 7 90 bq_28 HT_ ?_
    refine yr_ 8 91 bq_1 HT_ ?_
    exact norm_ tq_10 (hCont (.slice ch ca.length ci,v793,v796,az) _ ⟨hHeld,tq_60,tq_56,tq_55,tq_54,tq_52,tq_59,tq_53,tq_51,(kb_ BK732),(kb_ BK733),(kb_ BK751),(kb_ BK756),(kb_ BK769),(kb_ BK799),cf.out,cg.out,NB732_799.out,b3.out,NB733_799.out,b4.out,NB751_799.out,b5.out,NB756_799.out,b6.out,NB769_799.out,b7.out,th_⟩)
  ·skip
   refine box_step ?hg (N:=16) ?hd (cs:=#[.int .i64 0,.slice none 0 0,.slice none 0 0]) (t:=31) ?hr ?_;(case hd=>rfl);(case hg=>rfl);(case hr=>first|(go_simp;done)|(go_simp;rfl))
   intro az hg h8 hbox hb
   have z_:=p_ (Kd.R_below (raR_ HO_752001) hb) <| p_ (Kd.S_below (raS_ HO_752002) hb) <| p_ (Kd.R_below (raR_ HO_757001) hb) <| p_ (Kd.R_below (raR_ HO_770001) hb) <| p_ (Kd.S_below (raS_ HO_770002) hb) <| bx5_ (kb_ BK732) (kb_ BK733) (kb_ BK751) (kb_ BK756) (kb_ BK769) th_ hb hbox hg
   clear HO_752001 HO_752002 HO_757001 HO_770001 HO_770002 BK732 BK733 BK751 BK756 BK769 HB
   obtain ⟨HO_752001,HO_752002,HO_757001,HO_770001,HO_770002,BK732,BK733,BK751,BK756,BK769,HB,BK799,cf,cg,NB732_799,b3,NB733_799,b4,NB751_799,b5,NB756_799,b6,NB769_799,b7⟩:=z_
   clear hb hbox hg
   refine hK.out _ _ (bc2_ BK732.out (bk4_ BK733.out)) (fun hHeld=>?_)
   clear hK K
   refine nm_ (some 16) ?_
   refine one_ (i:=1) (N:=some 85) bq_142 rfl rfl (one_of HT_.out kr_) (by decide) (fun K hK=>?_)
   refine goes_ Tryz.func6 kr_ rfl #[.agg #[.string aw,.slice b8 ar.length b9]] (by rfl) rfl rfl tq_0 ?_
   with_reducible refine (laws_toMemory.calls kj83 aw _ _ ar d6 ca _ ?side1 ?side2 gi.out).mono ?_
   (case side1=>exact tq_4)
   (case side2=>exact cu.out)
   rintro e gj ⟨v785,rfl,ho0,hb⟩
   refine ⟨_,rfl,?_⟩
   have z_:=p_ (Kd.R_below (raR_ HO_752001) hb) <| p_ (Kd.S_below (raS_ HO_752002) hb) <| p_ (Kd.R_elder' (raR_ HO_757001) (Kd.R_base ho0) hb) <| p_ (Kd.R_below (raR_ HO_770001) hb) <| p_ (Kd.S_below (raS_ HO_770002) hb) <| p_ (Kd.R_lower (Kd.R_new' ho0 (Kd.R_lt (raR_ HO_757001))) (below_size th_)) <| bw6_ (kb_ BK732) (kb_ BK733) (kb_ BK751) (kb_ BK756) (kb_ BK769) (kb_ BK799) th_ hb
   clear HO_752001 HO_752002 HO_757001 HO_770001 HO_770002 BK732 BK733 BK751 BK756 BK769 BK799 HB
   obtain ⟨HO_752001,HO_752002,HO_757001,HO_770001,HO_770002,HO786,BK732,BK733,BK751,BK756,BK769,BK799,HB⟩:=z_
   (try clear hb)
   (try clear ho0)
   refine hK.out _ _ (bc2_ BK732.out (bk4_ BK733.out)) (fun hHeld=>?_)
   clear hK K
   refine nm_ (some 85) ?_
   refine one_ (i:=3) (N:=some 87) bq_25 rfl rfl (one_of HT_.out kr_) (by decide) (fun K hK=>?_)
   refine goes_ Tryz.func7 kr_ rfl #[.agg #[.int .i64 an,.int .i64 ao,.int .i64 ap,.int .i64 aq]] (by rfl) rfl rfl tq_0 ?_
   with_reducible refine (laws_toGeo.calls an ao ap aq cp cq cr ct _ fl.out).mono ?_
   rintro e gl ⟨rfl,hb⟩
   refine ⟨_,rfl,?_⟩
   have z_:=p_ (Kd.R_below (raR_ HO_752001) hb) <| p_ (Kd.S_below (raS_ HO_752002) hb) <| p_ (Kd.R_below (raR_ HO_757001) hb) <| p_ (Kd.R_below (raR_ HO_770001) hb) <| p_ (Kd.S_below (raS_ HO_770002) hb) <| p_ (Kd.R_below (raR_ HO786) hb) <| bw6_ (kb_ BK732) (kb_ BK733) (kb_ BK751) (kb_ BK756) (kb_ BK769) (kb_ BK799) th_ hb
   clear HO_752001 HO_752002 HO_757001 HO_770001 HO_770002 HO786 BK732 BK733 BK751 BK756 BK769 BK799 HB
   obtain ⟨HO_752001,HO_752002,HO_757001,HO_770001,HO_770002,HO786,BK732,BK733,BK751,BK756,BK769,BK799,HB⟩:=z_
   (try clear hb)
   obtain ⟨ch,ci,cj⟩:=Kd.R_slice HO786.out
   (first|subst cj|(injection cj with f1_ f2_ f3_;have f4_:=f1_.symm;have f5_:=f3_.symm;clear f1_ f2_ f3_;subst f4_;subst f5_))
   refine hK.out _ _ (bc2_ BK732.out (bk4_ BK733.out)) (fun hHeld=>?_)
   clear hK K
   refine nm_ (some 87) ?_
   refine one_ (i:=5) (N:=some 89) bq_26 rfl rfl (one_of HT_.out kr_) (by decide) (fun K hK=>?_)
   refine goes_ Tryz.func8 kr_ rfl #[.agg #[.string d6,.slice ch ca.length ci],.agg #[.int .i64 cp,.int .i64 cq,.int .i64 cr,.int .i64 ct],.int .i64 a2] (by rfl) rfl rfl tq_0 ?_
   with_reducible refine (impl_ReadPart.calls kj83 d6 _ _ ca cp cq cr ct a2 t791 t792 bi du _ ?side1 ?side2 el.out).mono ?_
   (case side1=>exact tq_44)
   (case side2=>exact (Kd.R_reads' HO786.out).2.1)
   rintro e fm ⟨v793,v796,rfl,ho0,ho1,hb⟩
   refine ⟨_,rfl,?_⟩
   have z_:=p_ (Kd.R_elder' (raR_ HO_752001) (Kd.R_base ho0) hb) <| p_ (Kd.S_elder' (raS_ HO_752002) (Kd.S_base ho1) hb) <| p_ (Kd.R_below (raR_ HO_757001) hb) <| p_ (Kd.R_elder' (raR_ HO_770001) (Kd.R_base ho0) hb) <| p_ (Kd.S_elder' (raS_ HO_770002) (Kd.S_base ho1) hb) <| p_ (Kd.R_below (raR_ HO786) hb) <| p_ (Kd.R_lower (Kd.R_new' (Kd.R_new' ho0 (Kd.R_lt (raR_ HO_752001))) (Kd.R_lt (raR_ HO_770001))) (below_size th_)) <| p_ (Kd.S_lower (Kd.S_new' (Kd.S_new' ho1 (Kd.S_lt (raS_ HO_752002))) (Kd.S_lt (raS_ HO_770002))) (below_size th_)) <| bw6_ (kb_ BK732) (kb_ BK733) (kb_ BK751) (kb_ BK756) (kb_ BK769) (kb_ BK799) th_ hb
   clear HO_752001 HO_752002 HO_757001 HO_770001 HO_770002 HO786 BK732 BK733 BK751 BK756 BK769 BK799 HB
   obtain ⟨HO_752001,HO_752002,HO_757001,HO_770001,HO_770002,HO786,HO794,HO797,BK732,BK733,BK751,BK756,BK769,BK799,HB⟩:=z_
   (try clear hb)
   (try clear ho0)
   (try clear ho1)
   refine hK.out _ _ (bc2_ BK732.out (bk4_ BK733.out)) (fun hHeld=>?_)
   clear hK K
   refine nm_ (some 89) ?_
   refine yr_ 6 83 bq_27 HT_ ?_
   refine yr_ 7 90 bq_28 HT_ ?_
   refine yr_ 8 91 bq_1 HT_ ?_
   exact norm_ tq_10 (hCont (.slice ch ca.length ci,v793,v796,az) _ ⟨hHeld,tq_60,tq_56,tq_55,tq_54,tq_52,tq_59,tq_53,tq_51,(kb_ BK732),(kb_ BK733),(kb_ BK751),(kb_ BK756),(kb_ BK769),(kb_ BK799),cf.out,cg.out,NB732_799.out,b3.out,NB733_799.out,b4.out,NB751_799.out,b5.out,NB756_799.out,b6.out,NB769_799.out,b7.out,th_⟩)
 rintro ⟨v785,v793,v796,az⟩ bd ⟨hS_,h0_,h1_,h2_,h3_,h4_,h5_,h6_,h7_,h8_,h9_,h10_,h11_,h12_,h13_,h14_,h15_,h16_,h17_,h18_,h19_,h20_,h21_,h22_,h23_,h24_,h25_,h26_⟩
 have z_:=q_ (⟨h0_⟩:Aside0 (Kd.R k78 78 bd w.heap.size (fun k_=>some k_≠(.slice al cc.length am:Value).ownBlock) v785 ca)) <| q_ (⟨h1_⟩:Aside0 (Kd.R (Kd.int .i64) 3 bd w.heap.size (fun k_=>some k_≠(.slice b0 ac.length au:Value).ownBlock∧some k_≠(.slice Ao48 t762.length co48:Value).ownBlock) v793 t792)) <| q_ (⟨h2_⟩:Aside0 (Kd.S k62 62 bd w.heap.size (fun k_=>some k_≠(.slice av a9.length ai:Value).ownBlock∧some k_≠(.slice Ao50 t765.length co50:Value).ownBlock) v796 bi)) <| q_ (⟨h3_⟩:Aside0 (Kd.R (Kd.int .i64) 3 bd w.heap.size (fun k_=>some k_≠(v793:Value).ownBlock∧some k_≠(.slice Ao48 t762.length co48:Value).ownBlock) (.slice b0 ac.length au) ac)) <| q_ (⟨h4_⟩:Aside0 (Kd.S k62 62 bd w.heap.size (fun k_=>some k_≠(v796:Value).ownBlock∧some k_≠(.slice Ao50 t765.length co50:Value).ownBlock) (.slice av a9.length ai) a9)) <| q_ (⟨h5_⟩:Aside0 (Kd.R k78 78 bd w.heap.size (fun k_=>some k_≠(v785:Value).ownBlock) (.slice al cc.length am) cc)) <| q_ (⟨h6_⟩:Aside0 (Kd.R (Kd.int .i64) 3 bd w.heap.size (fun k_=>some k_≠(v793:Value).ownBlock∧some k_≠(.slice b0 ac.length au:Value).ownBlock) (.slice Ao48 t762.length co48) d3)) <| q_ (⟨h7_⟩:Aside0 (Kd.S k62 62 bd w.heap.size (fun k_=>some k_≠(v796:Value).ownBlock∧some k_≠(.slice av a9.length ai:Value).ownBlock) (.slice Ao50 t765.length co50) d4)) <| q_ (⟨h8_⟩:Aside0 (bd.heap[ae]?=some (.cells #[.string aw,.slice b8 ar.length b9] 24 (0,0)))) <| q_ (⟨h9_⟩:Aside0 (bd.heap[a5]?=some (.cells #[.int .i64 an,.int .i64 ao,.int .i64 ap,.int .i64 aq] 26 (0,0)))) <| q_ (⟨h10_⟩:Aside0 (bd.heap[af]?=some (.cells #[.int .i64 ba,.slice b0 ac.length au,.slice av a9.length ai] 31 (0,0)))) <| q_ (⟨h11_⟩:Aside0 (bd.heap[ab]?=some (.cells #[.string b1,.slice al cc.length am] 36 (0,0)))) <| q_ (⟨h12_⟩:Aside0 (bd.heap[gb769]?=some (.cells #[.int .i64 t761,.slice Ao48 t762.length co48,.slice Ao50 t765.length co50] 31 (0,0)))) <| q_ (⟨h13_⟩:Aside0 (bd.heap[az]?=some (.cells #[.int .i64 0,.slice none 0 0,.slice none 0 0] 31 (0,0)))) <| q_ (⟨h14_⟩:Aside0 (w.heap.size≤az)) <| q_ (⟨h15_⟩:Aside0 (w.heap.size≤az)) <| q_ (⟨h16_⟩:Aside0 (ae≠az)) <| q_ (⟨h17_⟩:Aside0 (az≠ae)) <| q_ (⟨h18_⟩:Aside0 (a5≠az)) <| q_ (⟨h19_⟩:Aside0 (az≠a5)) <| q_ (⟨h20_⟩:Aside0 (af≠az)) <| q_ (⟨h21_⟩:Aside0 (az≠af)) <| q_ (⟨h22_⟩:Aside0 (ab≠az)) <| q_ (⟨h23_⟩:Aside0 (az≠ab)) <| q_ (⟨h24_⟩:Aside0 (gb769≠az)) <| q_ (⟨h25_⟩:Aside0 (az≠gb769)) <| (⟨h26_⟩:Aside0 (Below w.heap.size w bd))
 clear HO_752001 HO_752002 HO_757001 HO_770001 HO_770002 BK732 BK733 BK751 BK756 BK769 HB h0_ h1_ h2_ h3_ h4_ h5_ h6_ h7_ h8_ h9_ h10_ h11_ h12_ h13_ h14_ h15_ h16_ h17_ h18_ h19_ h20_ h21_ h22_ h23_ h24_ h25_ h26_
 obtain ⟨HO786,HO794,HO797,HO_752001,HO_752002,HO_757001,HO_770001,HO_770002,BK732,BK733,BK751,BK756,BK769,BK799,cf,cg,NB732_799,b3,NB733_799,b4,NB751_799,b5,NB756_799,b6,NB769_799,b7,HB⟩:=z_
 have hHeld:bd.cell? ⟨ae,0,none⟩=some (.string aw)∧bd.cell? ⟨ae,1,none⟩=some (.slice b8 ar.length b9)∧bd.cell? ⟨a5,0,none⟩=some (.int .i64 an)∧bd.cell? ⟨a5,1,none⟩=some (.int .i64 ao)∧bd.cell? ⟨a5,2,none⟩=some (.int .i64 ap)∧bd.cell? ⟨a5,3,none⟩=some (.int .i64 aq):=hS_
 obtain ⟨Ao140,co140,ey⟩:=Kd.R_slice HO794.out
 (first|subst ey|(injection ey with f1_ f2_ f3_;have f4_:=f1_.symm;have f5_:=f3_.symm;clear f1_ f2_ f3_;subst f4_;subst f5_))
 obtain ⟨cb,bn,ez⟩:=Kd.S_slice HO797.out
 (first|subst ez|(injection ez with f1_ f2_ f3_;have f4_:=f1_.symm;have f5_:=f3_.symm;clear f1_ f2_ f3_;subst f4_;subst f5_))
 refine norm_ (a':=?_) ?_ ?_
 rotate_left
 ·simp only [putAll,Act.put,List.setIfInBounds_toArray,List.set_cons_zero,List.set_cons_succ]
  rfl
 refine one_ (i:=10) (N:=none) bq_202 rfl rfl (one_of HT_.out kr_) (by decide) (fun K hK=>?_)
 have hs139:bd.cell? ⟨az,0,none⟩=some (.int .i64 0):=(blk_cell BK799.out 0).trans rfl
 have hfs139:=blk_frozen BK799.out 0
 obtain ⟨e1,e2,e3,e4,e5,e6,e7,e8⟩:=an8_ NB732_799 NB733_799 NB751_799 NB756_799 NB769_799 b3 b4 b5
 obtain ⟨e9,ea⟩:=an2_ b6 b7
 have hs141:bd.cell? ⟨az,1,none⟩=some (.slice none 0 0):=(blk_cell BK799.out 1).trans rfl
 have hfs141:=blk_frozen BK799.out 1
 have hs143:bd.cell? ⟨az,2,none⟩=some (.slice none 0 0):=(blk_cell BK799.out 2).trans rfl
 have hfs143:=blk_frozen BK799.out 2
 refine skip_ (w1:=?_) (by rfl) rfl ?_ ?_
 rotate_left
 ·go_simp
  rfl
 refine hK.out _ _ ⟨(cf_ NB732_799 (cf_ NB732_799 (cf_ NB732_799 hHeld.1))),(cf_ NB732_799 (cf_ NB732_799 (cf_ NB732_799 hHeld.2.1))),(cf_ NB733_799 (cf_ NB733_799 (cf_ NB733_799 hHeld.2.2.1))),(cf_ NB733_799 (cf_ NB733_799 (cf_ NB733_799 hHeld.2.2.2.1))),(cf_ NB733_799 (cf_ NB733_799 (cf_ NB733_799 hHeld.2.2.2.2.1))),(cf_ NB733_799 (cf_ NB733_799 (cf_ NB733_799 hHeld.2.2.2.2.2)))⟩ (fun hHeld=>?_)
 clear hK K
 refine yr_ 11 17 bq_203 HT_ ?_
 refine done_ (done_of HT_.out kr_) ?_
 go_upto_region 25 with (fail)
 go_cut [100] (fun v100 wc=>∃ (kq:Nat) (cd:Bool),v100=.bool cd∧Aside0 (laws_FnExactReadPart.j2 kq ek cd t761 d3 d4=some r)∧Aside0 (kq≤kj83)∧Aside0 (Kd.R (Kd.int .i64) 3 wc w.heap.size (fun k_=>some k_≠((.slice Ao48 t762.length co48):Value).ownBlock∧some k_≠((.slice Ao140 t792.length co140):Value).ownBlock) (.slice b0 ac.length au) ac)∧Aside0 (Kd.S k62 62 wc w.heap.size (fun k_=>some k_≠((.slice Ao50 t765.length co50):Value).ownBlock∧some k_≠((.slice cb bi.length bn):Value).ownBlock) (.slice av a9.length ai) a9)∧Aside0 (Kd.R k78 78 wc w.heap.size (fun _=>True) (.slice al cc.length am) cc)∧Aside0 (Kd.R (Kd.int .i64) 3 wc w.heap.size (fun k_=>some k_≠((.slice b0 ac.length au):Value).ownBlock∧some k_≠((.slice Ao140 t792.length co140):Value).ownBlock) (.slice Ao48 t762.length co48) d3)∧Aside0 (Kd.S k62 62 wc w.heap.size (fun k_=>some k_≠((.slice av a9.length ai):Value).ownBlock∧some k_≠((.slice cb bi.length bn):Value).ownBlock) (.slice Ao50 t765.length co50) d4)∧Aside0 (Kd.R (Kd.int .i64) 3 wc w.heap.size (fun k_=>some k_≠((.slice b0 ac.length au):Value).ownBlock∧some k_≠((.slice Ao48 t762.length co48):Value).ownBlock) (.slice Ao140 t792.length co140) t792)∧Aside0 (Kd.S k62 62 wc w.heap.size (fun k_=>some k_≠((.slice av a9.length ai):Value).ownBlock∧some k_≠((.slice Ao50 t765.length co50):Value).ownBlock) (.slice cb bi.length bn) bi)∧Aside0 (wc.heap[ae]?=some (.cells #[.string aw,(.slice b8 ar.length b9)] 24 (0,0)))∧Aside0 (wc.heap[a5]?=some (.cells #[.int .i64 an,.int .i64 ao,.int .i64 ap,.int .i64 aq] 26 (0,0)))∧Aside0 (wc.heap[af]?=some (.cells #[.int .i64 ba,(.slice b0 ac.length au),(.slice av a9.length ai)] 31 (0,0)))∧Aside0 (wc.heap[ab]?=some (.cells #[.string b1,(.slice al cc.length am)] 36 (0,0)))∧Aside0 (wc.heap[gb769]?=some (.cells #[.int .i64 t761,(.slice Ao48 t762.length co48),(.slice Ao50 t765.length co50)] 31 (0,0)))∧Aside0 (wc.heap[az]?=some (.cells #[.int .i64 t791,(.slice Ao140 t792.length co140),(.slice cb bi.length bn)] 31 (0,0)))∧Aside0 (Below w.heap.size w wc))
 case first =>
  have H:=e0.out
  clear e0
  obtain ⟨h9,gm,H⟩:=bd_ H
  by_cases eb:h9=true
  ·subst eb
   rw [if_pos rfl] at H
   have H':=m_ H
   clear H
   have f7:=bb3_ BK799.out
   obtain ⟨bq,bo,br,bp,bu,bs,bb,bc⟩:=an8_ ag aa ah a6 bx bz NB751_769 aj
   have f8:=bb3_ BK751.out
   go_wp2_with (first|((with_reducible refine gate_callee (f:=9) rfl ?_);refine goesL_ (some 94) rfl rfl Tryz.func9 kr_ rfl #[.agg #[.int .i64 t791,.slice Ao140 t792.length co140,.slice cb bi.length bn],.agg #[.int .i64 ba,.slice b0 ac.length au,.slice av a9.length ai]] rfl tq_0 ?_;(with_reducible refine (laws_eqPart.calls kj83 t791 _ _ t792 _ _ bi ba _ _ ac _ _ a9 true _ ?side1 ?side2 ?side3 ?side4 ?side5 ?side6 ?side7 ?side8 gm.out).mono ?_);(case side1=>refine (Kd.R_reads' (e:=3) (base:=w.heap.size) (ok:=fun k_=>(some k_≠(.slice b0 ac.length au:Value).ownBlock∧some k_≠(.slice Ao48 t762.length co48:Value).ownBlock)) (n:=t792.length) (c:=co140) ?_).2.2;exact tq_28);(case side2=>exact (Kd.R_reads' HO794.out).2.1);(case side3=>refine (Kd.S_reads' (e:=62) (base:=w.heap.size) (ok:=fun k_=>(some k_≠(.slice av a9.length ai:Value).ownBlock∧some k_≠(.slice Ao50 t765.length co50:Value).ownBlock)) (n:=bi.length) (c:=bn) ?_).2.2;exact tq_25);(case side4=>exact (Kd.S_reads' HO797.out).2.1);(case side5=>refine (Kd.R_reads' (e:=3) (base:=w.heap.size) (ok:=fun k_=>(some k_≠(.slice Ao140 t792.length co140:Value).ownBlock∧some k_≠(.slice Ao48 t762.length co48:Value).ownBlock)) (n:=ac.length) (c:=au) ?_).2.2;exact tq_23);(case side6=>exact (Kd.R_reads' HO_752001.out).2.1);(case side7=>refine (Kd.S_reads' (e:=62) (base:=w.heap.size) (ok:=fun k_=>(some k_≠(.slice cb bi.length bn:Value).ownBlock∧some k_≠(.slice Ao50 t765.length co50:Value).ownBlock)) (n:=a9.length) (c:=ai) ?_).2.2;exact tq_22);(case side8=>exact (Kd.S_reads' HO_752002.out).2.1);rintro e jl ⟨rfl,hb⟩;refine ⟨_,rfl,?_⟩;have z_:=p_ (Kd.R_below tq_23 hb) <| p_ (Kd.S_below tq_22 hb) <| p_ (Kd.R_below tq_79 hb) <| p_ (Kd.R_below tq_78 hb) <| p_ (Kd.S_below tq_77 hb) <| p_ (Kd.R_below tq_80 hb) <| p_ (Kd.R_below tq_28 hb) <| p_ (Kd.S_below tq_25 hb) <| p_ (blk_below (g:=ae) (o:=.cells #[.string aw,.slice b8 ar.length b9] 24 (0,0)) tq_38 hb) <| p_ (blk_below (g:=a5) (o:=.cells #[.int .i64 an,.int .i64 ao,.int .i64 ap,.int .i64 aq] 26 (0,0)) tq_36 hb) <| p_ (blk_below (g:=af) (o:=.cells #[.int .i64 ba,.slice b0 ac.length au,.slice av a9.length ai] 31 (0,0)) tq_34 hb) <| p_ (blk_below (g:=ab) (o:=.cells #[.string b1,.slice al cc.length am] 36 (0,0)) tq_32 hb) <| p_ (blk_below (g:=gb769) (o:=.cells #[.int .i64 t761,.slice Ao48 t762.length co48,.slice Ao50 t765.length co50] 31 (0,0)) tq_31 hb) <| p_ (blk_below (g:=az) (o:=.cells #[.int .i64 t791,.slice Ao140 t792.length co140,.slice cb bi.length bn] 31 (0,0)) tq_17 hb) <| a_ (below_step th_ hb);clear HO_752001 HO_752002 HO_757001 HO_770001 HO_770002 HO786 HO794 HO797 BK732 BK733 BK751 BK756 BK769 BK799 HB;obtain ⟨HO_752001,HO_752002,HO_757001,HO_770001,HO_770002,HO786,HO794,HO797,BK732,BK733,BK751,BK756,BK769,BK799,HB⟩:=z_;(try clear hb)))
   go_meet
   case rel=>exact ⟨_,((du != co)),tq_3,H',⟨(by have:=HJ17.out;have:=HJ83.out;first|omega|exact Nat.le_refl _)⟩,⟨tq_88⟩,⟨tq_86⟩,⟨tq_89⟩,⟨tq_87⟩,⟨tq_85⟩,⟨tq_115⟩,⟨tq_114⟩,⟨tq_112⟩,⟨tq_111⟩,⟨tq_110⟩,⟨tq_109⟩,⟨tq_108⟩,⟨tq_107⟩,⟨th_⟩⟩
  replace eb:=Bool.eq_false_iff.mpr eb
  subst eb
  rw [if_neg nf_] at H
  have H':=m_ H
  clear H
  have f9:=bb3_ BK799.out
  obtain ⟨bq,bo,br,bp,bu,bs,bb,bc⟩:=an8_ ag aa ah a6 bx bz NB751_769 aj
  have fa:=bb3_ BK751.out
  go_wp2_with (first|((with_reducible refine gate_callee (f:=9) rfl ?_);refine goesL_ (some 94) rfl rfl Tryz.func9 kr_ rfl #[.agg #[.int .i64 t791,.slice Ao140 t792.length co140,.slice cb bi.length bn],.agg #[.int .i64 ba,.slice b0 ac.length au,.slice av a9.length ai]] rfl tq_0 ?_;(with_reducible refine (laws_eqPart.calls kj83 t791 _ _ t792 _ _ bi ba _ _ ac _ _ a9 false _ ?side1 ?side2 ?side3 ?side4 ?side5 ?side6 ?side7 ?side8 gm.out).mono ?_);(case side1=>refine (Kd.R_reads' (e:=3) (base:=w.heap.size) (ok:=fun k_=>(some k_≠(.slice b0 ac.length au:Value).ownBlock∧some k_≠(.slice Ao48 t762.length co48:Value).ownBlock)) (n:=t792.length) (c:=co140) ?_).2.2;exact tq_28);(case side2=>exact (Kd.R_reads' HO794.out).2.1);(case side3=>refine (Kd.S_reads' (e:=62) (base:=w.heap.size) (ok:=fun k_=>(some k_≠(.slice av a9.length ai:Value).ownBlock∧some k_≠(.slice Ao50 t765.length co50:Value).ownBlock)) (n:=bi.length) (c:=bn) ?_).2.2;exact tq_25);(case side4=>exact (Kd.S_reads' HO797.out).2.1);(case side5=>refine (Kd.R_reads' (e:=3) (base:=w.heap.size) (ok:=fun k_=>(some k_≠(.slice Ao140 t792.length co140:Value).ownBlock∧some k_≠(.slice Ao48 t762.length co48:Value).ownBlock)) (n:=ac.length) (c:=au) ?_).2.2;exact tq_23);(case side6=>exact (Kd.R_reads' HO_752001.out).2.1);(case side7=>refine (Kd.S_reads' (e:=62) (base:=w.heap.size) (ok:=fun k_=>(some k_≠(.slice cb bi.length bn:Value).ownBlock∧some k_≠(.slice Ao50 t765.length co50:Value).ownBlock)) (n:=a9.length) (c:=ai) ?_).2.2;exact tq_22);(case side8=>exact (Kd.S_reads' HO_752002.out).2.1);rintro e jm ⟨rfl,hb⟩;refine ⟨_,rfl,?_⟩;have z_:=p_ (Kd.R_below tq_23 hb) <| p_ (Kd.S_below tq_22 hb) <| p_ (Kd.R_below tq_79 hb) <| p_ (Kd.R_below tq_78 hb) <| p_ (Kd.S_below tq_77 hb) <| p_ (Kd.R_below tq_80 hb) <| p_ (Kd.R_below tq_28 hb) <| p_ (Kd.S_below tq_25 hb) <| p_ (blk_below (g:=ae) (o:=.cells #[.string aw,.slice b8 ar.length b9] 24 (0,0)) tq_38 hb) <| p_ (blk_below (g:=a5) (o:=.cells #[.int .i64 an,.int .i64 ao,.int .i64 ap,.int .i64 aq] 26 (0,0)) tq_36 hb) <| p_ (blk_below (g:=af) (o:=.cells #[.int .i64 ba,.slice b0 ac.length au,.slice av a9.length ai] 31 (0,0)) tq_34 hb) <| p_ (blk_below (g:=ab) (o:=.cells #[.string b1,.slice al cc.length am] 36 (0,0)) tq_32 hb) <| p_ (blk_below (g:=gb769) (o:=.cells #[.int .i64 t761,.slice Ao48 t762.length co48,.slice Ao50 t765.length co50] 31 (0,0)) tq_31 hb) <| p_ (blk_below (g:=az) (o:=.cells #[.int .i64 t791,.slice Ao140 t792.length co140,.slice cb bi.length bn] 31 (0,0)) tq_17 hb) <| a_ (below_step th_ hb);clear HO_752001 HO_752002 HO_757001 HO_770001 HO_770002 HO786 HO794 HO797 BK732 BK733 BK751 BK756 BK769 BK799 HB;obtain ⟨HO_752001,HO_752002,HO_757001,HO_770001,HO_770002,HO786,HO794,HO797,BK732,BK733,BK751,BK756,BK769,BK799,HB⟩:=z_;(try clear hb)))
  go_meet
  case rel=>exact ⟨_,(true),tq_3,H',⟨(by have:=HJ17.out;have:=HJ83.out;first|omega|exact Nat.le_refl _)⟩,⟨tq_88⟩,⟨tq_86⟩,⟨tq_89⟩,⟨tq_87⟩,⟨tq_85⟩,⟨tq_115⟩,⟨tq_114⟩,⟨tq_112⟩,⟨tq_111⟩,⟨tq_110⟩,⟨tq_109⟩,⟨tq_108⟩,⟨tq_107⟩,⟨th_⟩⟩
 case rest =>
 clear e0
 try clear c1;try clear p2;try clear c6;try clear c7;try clear c8;try clear c9;try clear lw;try clear lx;try clear ly;try clear eb;try clear jn;try clear jo;try clear jp;try clear jq;try clear jr;try clear js;try clear jt;try clear ju;try clear jv;try clear jw;try clear jx;try clear jy;try clear jz;try clear l3;try clear l6;try clear l7;try clear l8;try clear l9;try clear f7;try clear f8;try clear f9;try clear fa;try clear f7;try clear f8;try clear f9;try clear fa
 obtain ⟨kq,cd,rfl,HA,HJ130,HO_752001,HO_752002,HO_757001,HO_770001,HO_770002,bj,bl,BK732,BK733,BK751,BK756,BK769,BK799,HB⟩:=hcut
 have a7:=(Kd.R_reads' HO_770001.out).1
 rw [a7] at HO_770001
 (try simp only [a7])
 (try simp only [a7] at BK732)
 (try simp only [a7] at BK733)
 (try simp only [a7] at BK751)
 (try simp only [a7] at BK756)
 (try simp only [a7] at BK769)
 (try simp only [a7] at BK799)
 (try simp only [a7] at HO_752001)
 (try simp only [a7] at HO_752002)
 (try simp only [a7] at HO_757001)
 (try simp only [a7] at HO_770002)
 (try simp only [a7] at bj)
 (try simp only [a7] at bl)
 have a8:=(Kd.S_reads' HO_770002.out).1
 rw [a8] at HO_770002
 (try simp only [a8])
 (try simp only [a8] at BK732)
 (try simp only [a8] at BK733)
 (try simp only [a8] at BK751)
 (try simp only [a8] at BK756)
 (try simp only [a8] at BK769)
 (try simp only [a8] at BK799)
 (try simp only [a8] at HO_752001)
 (try simp only [a8] at HO_752002)
 (try simp only [a8] at HO_757001)
 (try simp only [a8] at HO_770001)
 (try simp only [a8] at bj)
 (try simp only [a8] at bl)
 cases kq with
 | zero=>exact absurd HA.out (by simp [laws_FnExactReadPart.j2])
 | succ kj130 =>
 have H:=HA.out
 clear HA
 simp only [laws_FnExactReadPart.j2] at H
 by_cases em:cd=true
 ·subst em
  rw [if_pos rfl] at H
  obtain rfl:=oi_ H
  go_wp2
  go_ret
  exact ⟨tq_1,th_⟩
 replace em:=Bool.eq_false_iff.mpr em
 subst em
 rw [if_neg nf_] at H
 obtain ⟨fn,hf,H⟩:=bd_ H
 have fb:=m_ H
 clear H
 obtain ⟨bg,be,bh,bf,bc,bb,bw,bv⟩:=an8_ ax NB732_769 ay NB733_769 aj NB751_769 b2 NB756_769
 have gn:=bb3_ BK769.out
 go_upto_if 105 with (first|((with_reducible refine gate_callee (f:=13) rfl ?_);refine goesL_ (some 103) rfl rfl Tryz.func13 kr_ rfl #[.agg #[.int .i64 t761,.slice Ao48 d3.length co48,.slice Ao50 d4.length co50],.int .i64 1] rfl tq_0 ?_;(with_reducible refine (laws_heldPart.calls kj130 t761 _ _ d3 _ _ d4 1 fn _ ?side1 ?side2 ?side3 ?side4 hf.out).mono ?_);(case side1=>exact tq_43);(case side2=>exact (Kd.R_reads' HO_770001.out).2.1);(case side3=>exact tq_42);(case side4=>exact (Kd.S_reads' HO_770002.out).2.1);rintro e la ⟨rfl,hb⟩;refine ⟨_,rfl,?_⟩;have z_:=p_ (Kd.R_below (raR_ HO_752001) hb) <| p_ (Kd.S_below (raS_ HO_752002) hb) <| p_ (Kd.R_below (raR_ HO_757001) hb) <| p_ (Kd.R_below (raR_ HO_770001) hb) <| p_ (Kd.S_below (raS_ HO_770002) hb) <| p_ (Kd.R_below (raR_ bj) hb) <| p_ (Kd.S_below (raS_ bl) hb) <| bw6_ (kb_ BK732) (kb_ BK733) (kb_ BK751) (kb_ BK756) (kb_ BK769) (kb_ BK799) th_ hb;clear HO_752001 HO_752002 HO_757001 HO_770001 HO_770002 bj bl BK732 BK733 BK751 BK756 BK769 BK799 HB;obtain ⟨HO_752001,HO_752002,HO_757001,HO_770001,HO_770002,bj,bl,BK732,BK733,BK751,BK756,BK769,BK799,HB⟩:=z_;(try clear hb)))
 (try simp only [Act.put,List.setIfInBounds_toArray,List.set_cons_zero,List.set_cons_succ])
 (try clear be e1 bf e2 bb e3 bv e4 bg bh bc bw e5 e6 e7 e8 e9 ea)
 (try clear gn)
 have H:=fb.out
 clear fb
 by_cases dz:fn < 0
 ·rw [if_pos dz] at H
  have d7:=de_ dz
  clear dz
  (first|rw [d7]|(simp only [i64_w,i32_w];rw [d7])|skip)
  obtain rfl:=oi_ H
  go_wp2
  go_ret
  exact ⟨tq_1,th_⟩
 rw [if_neg dz] at H
 have d7:=df_ dz
 clear dz
 (first|rw [d7]|(simp only [i64_w,i32_w];rw [d7])|skip)
 by_cases dx:fn=ek
 rotate_left
 ·rw [if_neg dx] at H
  have fo:=qc_ dx
  have fp:=qd_ dx
  obtain rfl:=oi_ H
  go_wp2
  go_ret
  exact ⟨tq_1,th_⟩
 rw [if_pos dx] at H
 have fo:=qa_ dx
 have fp:=qb_ dx
 clear dx
 obtain rfl:=oi_ H
 go_wp2
 go_ret
 exact ⟨tq_1,th_⟩

end Go.Proofs.YtleoknilacjakaaGreatDoor.PFnExactReadPart
