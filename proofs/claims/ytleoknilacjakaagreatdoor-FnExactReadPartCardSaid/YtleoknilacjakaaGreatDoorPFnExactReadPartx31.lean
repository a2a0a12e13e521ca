/- Contracts of Go functions: each call returns what the Lean function beside it computes. Conditions: as each theorem states them. -/
import Derived.Test.YtleoknilacjakaaGreatDoorPkFnExactReadPart
import Derived.Test.YtleoknilacjakaaGreatDoorPFnExactReadPartx3
import Derived.Test.YtleoknilacjakaaGreatDoorPFnExactReadPartx30
namespace Go.Proofs.YtleoknilacjakaaGreatDoor.PFnExactReadPart
open Go.RowKit Go.Proofs.YtleoknilacjakaaGreatDoorW.PrintWords Go.Proofs.YtleoknilacjakaaGreatDoorW.PrintLast Go.Proofs.YtleoknilacjakaaGreatDoorW.PrintMore
attribute [local go_sem] max2_int min2_int max_two min_two max_three min_three max_four min_four setCell_drewN   -- for this text's walks alone
set_option linter.unusedVariables false
set_option maxHeartbeats 8000000
set_option maxRecDepth 100000
set_option linter.unusedSimpArgs false

def laws_heldInodeS.l0:Nat→List (S62)→Int→Int→Option (Int)
 | 0,_,_,_=>none
 | k+1,x0,x1,x5=>if x5 < (x0.length:Int) then (if 0≤x5 then (if ((rd_T62 x0 x5).f0)=x1 then (if ((rd_T62 x0 x5).f1)=(wrap64 (x1+1)) then (if ((rd_T62 x0 x5).f2)=(wrap64 ((wrap64 (x1+1))+1)) then ((laws_markText.f k (wrap64 ((wrap64 ((wrap64 (x1+1))+1))+1))).bind fun a7=>(if ((rd_T62 x0 x5).f3).toList=a7.toList then ((laws_heldRecS.f k ((rd_T62 x0 x5).f4) (wrap64 ((wrap64 ((wrap64 ((wrap64 (x1+1))+1))+1))+1))).bind fun a5=>(if a5 < 0 then (some (-1)) else ((laws_heldEntryS.f k ((rd_T62 x0 x5).f5) a5).bind fun a6=>(if a6 < 0 then (some (-1)) else (laws_heldInodeS.l0 k x0 a6 (wrap64 (x5+1))))))) else (some (-1)))) else (some (-1))) else (some (-1))) else (some (-1))) else (none)) else (some x1)
def laws_heldInodeS.f (k:Nat) (l0:List (S62)) (a1:Int):Option (Int):=laws_heldInodeS.l0 k l0 a1 0
def laws_heldInodeS.T13:Bool × List (List Nat × List Nat):=(true,[([],[]),([],[]),([0,1],[0,1]),([2],[2]),([3],[3]),([],[]),([5],[5]),([4,6],[4,6])])
def laws_heldInodeS.B13:List Nat:=[0,0,3,7,15,0,32,127]
theorem laws_heldInodeS.tab13:rtab .any (opsOf Tryz.f39 13)=laws_heldInodeS.T13:=by kernel_rfl
theorem laws_heldInodeS.bits13:waitsOk laws_heldInodeS.T13.2 laws_heldInodeS.B13=true:=by kernel_rfl
theorem laws_heldInodeS.calls (k:Nat) (A0:Option Addr) (c0:Nat) (l0:List (S62)) (a1:Int) (r:Int) (w:World) (hr0:Kd.C k62 w A0 l0.length l0) (hc0:l0.length≤c0) (h:laws_heldInodeS.f k l0 a1=some r) :
  Calls Tryz.prog 39 #[.slice A0 l0.length c0,.int .i64 a1] w fun e w'=>e=.returned (.int .i64 r)∧Below w.heap.size w w':=by
 have HR0:=m_ hr0
 have fk:=m_ hc0
 clear hr0 hc0
 have HB:=m_ (Below.refl w.heap.size w)
 unfold laws_heldInodeS.f at h
 have H:=h
 clear h
 have H':=m_ H
 clear H
 go_enter Tryz.func39,Tryz.ntmps39
 go_wp2
 go_loopg [1,5] k (fun kq v1 v5 w'=>∃ (au:Int) (a5:Int),v1=.int .i64 au∧v5=.int .i64 a5∧Aside0 (laws_heldInodeS.l0 kq l0 au a5=some r)∧Aside0 (kq≤k)∧Aside0 (Below w.heap.size w w'))
 case atStart=>exact ⟨(a1),(0),tq_3,tq_3,H',⟨Nat.le_refl _⟩,⟨th_⟩⟩
 case round =>
 clear H'
 try clear p2
 obtain ⟨au,a5,rfl,rfl,HA,HK1,HB⟩:=hrel
 cases gk with
 | zero=>exact absurd HA.out (by simp [laws_heldInodeS.l0])
 | succ k1 =>
 have H:=HA.out
 clear HA
 simp only [laws_heldInodeS.l0] at H
 by_cases c3:a5 < (l0.length:Int)
 rotate_left
 ·rw [if_neg c3] at H
  have eh:=df_ c3
  clear c3
  obtain rfl:=oi_ H
  go_wp2
  go_ret
  exact ⟨tq_1,th_⟩
 rw [if_pos c3] at H
 have eh:=de_ c3
 clear c3
 obtain ⟨c4,H⟩:=fc_ H
 have fg:=de_ c4
 clear c4
 have fd:=m_ H
 clear H
 have cw:0≤(a5:Int):=od_ tq_2
 have cx:a5 < (l0.length:Int):=od_ tq_2
 obtain ⟨a6,ei,ej,ek,el,em,av,aw,ax,ay,a7,a8,bm,bn,bo,bp⟩:=at_T62 HR0.out a5 cw cx
 cases em
 replace av:=hx_ HB.out av
 replace aw:=hx_ HB.out aw
 replace ax:=hx_ HB.out ax
 replace ay:=hx_ HB.out ay
 replace a7:=hx_ HB.out a7
 replace a8:=hx_ HB.out a8
 have dy:=m_ bn
 have dz:=m_ bm
 clear bn bm
 have e0:=m_ bp
 have e1:=m_ bo
 clear bp bo
 replace cw:=eq_true cw
 replace cx:=eq_true cx
 go_upto_if 18 with (fail)
 (try clear av aw ax ay a7 a8)
 have H:=fd.out
 clear fd
 by_cases c6:((rd_T62 l0 a5).f0)=au
 rotate_left
 ·rw [if_neg c6] at H
  have cm:=qc_ c6
  have en:=qd_ c6
  (first|rw [cm]|(simp only [i64_w,i32_w];rw [cm])|skip)
  obtain rfl:=oi_ H
  go_wp2
  go_ret
  exact ⟨tq_1,th_⟩
 rw [if_pos c6] at H
 have cm:=qa_ c6
 have en:=qb_ c6
 clear c6
 (first|rw [cm]|(simp only [i64_w,i32_w];rw [cm])|skip)
 have fe:=m_ H
 clear H
 have cy:0≤(a5:Int):=od_ tq_2
 have cz:a5 < (l0.length:Int):=od_ tq_2
 obtain ⟨dl,eo,ep,eq,er,es,az,b0,b1,b2,a9,aa,bq,br,bs,bu⟩:=at_T62 HR0.out a5 cy cz
 obtain rfl:a6=dl:=(by injection es)
 replace az:=hx_ HB.out az
 replace b0:=hx_ HB.out b0
 replace b1:=hx_ HB.out b1
 replace b2:=hx_ HB.out b2
 try clear hHeld;try clear a7
 replace a9:=hx_ HB.out a9
 try clear hHeld;try clear a8
 replace aa:=hx_ HB.out aa
 have e2:=m_ br
 have e3:=m_ bq
 clear br bq
 have e4:=m_ bu
 have e5:=m_ bs
 clear bu bs
 replace cy:=eq_true cy
 replace cz:=eq_true cz
 go_upto_if 27 with (fail)
 (try clear az b0 b1 b2 a9 aa)
 have H:=fe.out
 clear fe
 by_cases c8:((rd_T62 l0 a5).f1)=(wrap64 (au+1))
 rotate_left
 ·rw [if_neg c8] at H
  have cn:=qc_ c8
  have et:=qd_ c8
  (first|rw [cn]|(simp only [i64_w,i32_w];rw [cn])|skip)
  obtain rfl:=oi_ H
  go_wp2
  go_ret
  exact ⟨tq_1,th_⟩
 rw [if_pos c8] at H
 have cn:=qa_ c8
 have et:=qb_ c8
 clear c8
 (first|rw [cn]|(simp only [i64_w,i32_w];rw [cn])|skip)
 have ff:=m_ H
 clear H
 have d0:0≤(a5:Int):=od_ tq_2
 have d1:a5 < (l0.length:Int):=od_ tq_2
 obtain ⟨dm,eu,ev,ew,ex,ey,b3,b4,b5,b6,ae,af,bv,bw,bx,bz⟩:=at_T62 HR0.out a5 d0 d1
 obtain rfl:a6=dm:=(by injection ey)
 replace b3:=hx_ HB.out b3
 replace b4:=hx_ HB.out b4
 replace b5:=hx_ HB.out b5
 replace b6:=hx_ HB.out b6
 try clear hHeld;try clear a7;try clear a9
 replace ae:=hx_ HB.out ae
 try clear hHeld;try clear a8;try clear aa
 replace af:=hx_ HB.out af
 have e6:=m_ bw
 have e7:=m_ bv
 clear bw bv
 have e8:=m_ bz
 have e9:=m_ bx
 clear bz bx
 replace d0:=eq_true d0
 replace d1:=eq_true d1
 go_upto_if 36 with (fail)
 (try clear b3 b4 b5 b6 ae af)
 have H:=ff.out
 clear ff
 by_cases d2:((rd_T62 l0 a5).f2)=(wrap64 ((wrap64 (au+1))+1))
 rotate_left
 ·rw [if_neg d2] at H
  have bh:=qc_ d2
  have dn:=qd_ d2
  (first|rw [bh]|(simp only [i64_w,i32_w];rw [bh])|skip)
  obtain rfl:=oi_ H
  go_wp2
  go_ret
  exact ⟨tq_1,th_⟩
 rw [if_pos d2] at H
 have bh:=qa_ d2
 have dn:=qb_ d2
 clear d2
 (first|rw [bh]|(simp only [i64_w,i32_w];rw [bh])|skip)
 obtain ⟨dp,fh,H⟩:=bd_ H
 have dq:=m_ H
 clear H
 try go_wp2
 have n0_:=m_ (below_drew1 HB.out)
 clear HB
 have HB:=n0_
 clear n0_
 have d3:0≤(a5:Int):=od_ tq_2
 have d4:a5 < (l0.length:Int):=od_ tq_2
 obtain ⟨dr,d5,d6,d7,d8,ez,ag,ah,ai,aj,ab,ac,ca,cb,cc,cd⟩:=at_T62 HR0.out a5 d3 d4
 have ak:=ac
 have al:=ab
 have am:=aj
 have an:=ai
 have ao:=ah
 have ap:=ag
 obtain rfl:a6=dr:=(by injection ez)
 replace ag:=hx_ HB.out ag
 replace ah:=hx_ HB.out ah
 replace ai:=hx_ HB.out ai
 replace aj:=hx_ HB.out aj
 try clear hHeld;try clear a7;try clear a9;try clear ae
 replace ab:=hx_ HB.out ab
 try clear hHeld;try clear a8;try clear aa;try clear af
 replace ac:=hx_ HB.out ac
 have co:=m_ cb
 have ea:=m_ ca
 clear cb ca
 have cp:=m_ cd
 have eb:=m_ cc
 clear cd cc
 replace d3:=eq_true d3
 replace d4:=eq_true d4
 refine start_ (n:=8) (S:=fun w'=>w'.cell? (a6.add ((a5).toNat * 6))=some (.int .i64 ((rd_T62 l0 a5).f0))∧w'.cell? ⟨(a6.add ((a5).toNat * 6)).block,(a6.add ((a5).toNat * 6)).off+1,none⟩=some (.int .i64 ((rd_T62 l0 a5).f1))∧w'.cell? ⟨(a6.add ((a5).toNat * 6)).block,(a6.add ((a5).toNat * 6)).off+2,none⟩=some (.int .i64 ((rd_T62 l0 a5).f2))∧w'.cell? ⟨(a6.add ((a5).toNat * 6)).block,(a6.add ((a5).toNat * 6)).off+3,none⟩=some (.string ((rd_T62 l0 a5).f3))∧w'.cell? ⟨(a6.add ((a5).toNat * 6)).block,(a6.add ((a5).toNat * 6)).off+4,none⟩=some (.slice d5 ((rd_T62 l0 a5).f4).length d6)∧w'.cell? ⟨(a6.add ((a5).toNat * 6)).block,(a6.add ((a5).toNat * 6)).off+5,none⟩=some (.slice d7 ((rd_T62 l0 a5).f5).length d8)) (ds:=[]) bq_3 kr_ rfl rfl ⟨((HB.out.cell (World.block_lt_of_cell? w _ ap)).trans ap),((HB.out.cell (World.block_lt_of_cell? w _ ao)).trans ao),((HB.out.cell (World.block_lt_of_cell? w _ an)).trans an),((HB.out.cell (World.block_lt_of_cell? w _ am)).trans am),((HB.out.cell (World.block_lt_of_cell? w _ al)).trans al),((HB.out.cell (World.block_lt_of_cell? w _ ak)).trans ak)⟩ (fun hHeld=>?_);refine with_tabW laws_heldInodeS.tab13 laws_heldInodeS.bits13 (fun HT_ HW_=>?_)
 generalize wr.drew=fl at HB co cp ag ah ai aj ab ac hHeld ⊢
 refine yr_ 0 39 bq_4 HT_ ?_
 refine yr_ 1 40 bq_67 HT_ ?_
 refine yr_ 2 41 bq_68 HT_ ?_
 refine yr_ 3 42 bq_69 HT_ ?_
 refine yr_ 5 44 bq_204 HT_ ?_
 refine tr_ 4 43 bq_5 HT_ HW_ hHeld ?_
 refine one_ (i:=6) (N:=some 45) bq_6 rfl rfl (one_of HT_.out kr_) (by decide) (fun K hK=>?_)
 refine goes_ Tryz.func68 kr_ rfl #[.int .i64 (wrap64 ((wrap64 ((wrap64 (au+1))+1))+1))] (by rfl) rfl rfl tq_0 ?_
 with_reducible refine (laws_markText.calls k1 (wrap64 ((wrap64 ((wrap64 (au+1))+1))+1)) dp _ fh.out).mono ?_
 rintro e fm ⟨rfl,hb⟩
 refine ⟨_,rfl,?_⟩
 have n0_:=m_ (below_step th_ hb)
 clear HB
 have HB:=n0_
 clear n0_
 (try clear hb)
 refine hK.out _ _ ⟨((HB.out.cell (World.block_lt_of_cell? w _ ap)).trans ap),((HB.out.cell (World.block_lt_of_cell? w _ ao)).trans ao),((HB.out.cell (World.block_lt_of_cell? w _ an)).trans an),((HB.out.cell (World.block_lt_of_cell? w _ am)).trans am),((HB.out.cell (World.block_lt_of_cell? w _ al)).trans al),((HB.out.cell (World.block_lt_of_cell? w _ ak)).trans ak)⟩ (fun hHeld=>?_)
 clear hK K
 refine nm_ (some 45) ?_
 refine yr_ 7 46 bq_7 HT_ ?_
 refine done_ (done_of HT_.out kr_) ?_
 go_upto_if 46 with (fail)
 (try clear ag ah ai aj ab ac)
 have H:=dq.out
 clear dq
 by_cases d9:((rd_T62 l0 a5).f3).toList=dp.toList
 rotate_left
 ·rw [if_neg d9] at H
  have bi:=qc_ d9
  have dt:=qd_ d9
  (first|rw [bi]|(simp only [i64_w,i32_w];rw [bi])|skip)
  obtain rfl:=oi_ H
  go_wp2
  go_ret
  exact ⟨tq_1,th_⟩
 rw [if_pos d9] at H
 have bi:=qa_ d9
 have dt:=qb_ d9
 clear d9
 (first|rw [bi]|(simp only [i64_w,i32_w];rw [bi])|skip)
 obtain ⟨cq,fi,H⟩:=bd_ H
 have du:=m_ H
 clear H
 have da:0≤(a5:Int):=od_ tq_2
 have db:a5 < (l0.length:Int):=od_ tq_2
 obtain ⟨dv,dc,dd,f7,f8,f9,b7,b8,b9,ba,aq,ar,ce,cf,cg,ch⟩:=at_T62 HR0.out a5 da db
 obtain rfl:a6=dv:=(by injection f9)
 replace b7:=hx_ HB.out b7
 replace b8:=hx_ HB.out b8
 replace b9:=hx_ HB.out b9
 replace ba:=hx_ HB.out ba
 try clear hHeld;try clear a7;try clear a9;try clear ae;try clear ab
 replace aq:=hx_ HB.out aq
 try clear hHeld;try clear a8;try clear aa;try clear af;try clear ac
 replace ar:=hx_ HB.out ar
 have cr:=m_ cf
 have ct:=m_ ce
 clear cf ce
 have ec:=m_ ch
 have ed:=m_ cg
 clear ch cg
 replace da:=eq_true da
 replace db:=eq_true db
 go_upto_if 57 with (first|((with_reducible refine gate_callee (f:=71) rfl ?_);refine goesL_ (some 55) rfl rfl Tryz.func71 kr_ rfl #[.slice dc ((rd_T62 l0 a5).f4).length dd,.int .i64 (wrap64 ((wrap64 ((wrap64 ((wrap64 (au+1))+1))+1))+1))] rfl tq_0 ?_;(with_reducible refine (laws_heldRecS.calls k1 _ _ ((rd_T62 l0 a5).f4) (wrap64 ((wrap64 ((wrap64 ((wrap64 (au+1))+1))+1))+1)) cq _ ?side1 ?side2 fi.out).mono ?_);(case side1=>repeat (first|exact (Kd.C_below cr.out HB.out)|(with_reducible refine Kd.C_alloc ?_ _)|(with_reducible refine Kd.C_drewN ?_ _)|(with_reducible refine Kd.C_drew ?_)));(case side2=>exact ct.out);rintro e fn ⟨rfl,hb⟩;refine ⟨_,rfl,?_⟩;have n0_:=m_ (below_step th_ hb);clear HB;have HB:=n0_;clear n0_;(try clear hb)))
 (try simp only [Act.put,List.setIfInBounds_toArray,List.set_cons_zero,List.set_cons_succ])
 (try clear b7 b8 b9 ba aq ar)
 have H:=du.out
 clear du
 by_cases dj:cq < 0
 ·rw [if_pos dj] at H
  have bj:=de_ dj
  clear dj
  (first|rw [bj]|(simp only [i64_w,i32_w];rw [bj])|skip)
  obtain rfl:=oi_ H
  go_wp2
  go_ret
  exact ⟨tq_1,th_⟩
 rw [if_neg dj] at H
 have bj:=df_ dj
 clear dj
 (first|rw [bj]|(simp only [i64_w,i32_w];rw [bj])|skip)
 obtain ⟨de,fj,H⟩:=bd_ H
 have dw:=m_ H
 clear H
 have df:0≤(a5:Int):=od_ tq_2
 have dg:a5 < (l0.length:Int):=od_ tq_2
 obtain ⟨dx,fa,fb,dh,di,fc,bb,bc,bd,be,bf,bg,ci,cj,ck,cl⟩:=at_T62 HR0.out a5 df dg
 obtain rfl:a6=dx:=(by injection fc)
 replace bb:=hx_ HB.out bb
 replace bc:=hx_ HB.out bc
 replace bd:=hx_ HB.out bd
 replace be:=hx_ HB.out be
 try clear hHeld;try clear a7;try clear a9;try clear ae;try clear ab;try clear aq
 replace bf:=hx_ HB.out bf
 try clear hHeld;try clear a8;try clear aa;try clear af;try clear ac;try clear ar
 replace bg:=hx_ HB.out bg
 have ee:=m_ cj
 have ef:=m_ ci
 clear cj ci
 have cu:=m_ cl
 have cv:=m_ ck
 clear cl ck
 replace df:=eq_true df
 replace dg:=eq_true dg
 go_upto_if 66 with (first|((with_reducible refine gate_callee (f:=72) rfl ?_);refine goesL_ (some 64) rfl rfl Tryz.func72 kr_ rfl #[.slice dh ((rd_T62 l0 a5).f5).length di,.int .i64 cq] rfl tq_0 ?_;(with_reducible refine (laws_heldEntryS.calls k1 _ _ ((rd_T62 l0 a5).f5) cq de _ ?side1 ?side2 fj.out).mono ?_);(case side1=>repeat (first|exact (Kd.C_below cu.out HB.out)|(with_reducible refine Kd.C_alloc ?_ _)|(with_reducible refine Kd.C_drewN ?_ _)|(with_reducible refine Kd.C_drew ?_)));(case side2=>exact cv.out);rintro e fo ⟨rfl,hb⟩;refine ⟨_,rfl,?_⟩;have n0_:=m_ (below_step th_ hb);clear HB;have HB:=n0_;clear n0_;(try clear hb)))
 (try simp only [Act.put,List.setIfInBounds_toArray,List.set_cons_zero,List.set_cons_succ])
 (try clear bb bc bd be bf bg)
 have H:=dw.out
 clear dw
 by_cases dk:de < 0
 ·rw [if_pos dk] at H
  have bl:=de_ dk
  clear dk
  (first|rw [bl]|(simp only [i64_w,i32_w];rw [bl])|skip)
  obtain rfl:=oi_ H
  go_wp2
  go_ret
  exact ⟨tq_1,th_⟩
 rw [if_neg dk] at H
 have bl:=df_ dk
 clear dk
 (first|rw [bl]|(simp only [i64_w,i32_w];rw [bl])|skip)
 have H':=m_ H
 clear H
 go_wp2
 go_roundg k1
 case measure=>have:=HK1.out;omega
 case rel=>exact ⟨(de),(wrap64 (a5+1)),tq_3,tq_3,H',⟨tq_14⟩,⟨th_⟩⟩

def laws_heldPart.f (k:Nat) (a9:Int) (a7:List Int) (a8:List (S62)) (a1:Int):Option (Int):=(laws_heldIntS.f k a7 a1).bind fun a5=>(if a5 < 0 then (some (-1)) else ((laws_heldInodeS.f k a8 a5).bind fun a6=>(if a6 < 0 then (some (-1)) else (some a6))))
theorem laws_heldPart.calls (k:Nat) (ak:Int) (aa:Option Addr) (ab:Nat) (a5:List Int) (ac:Option Addr) (ae:Nat) (a6:List (S62)) (a1:Int) (r:Int) (w:World) (ag:Kd.C (Kd.int .i64) w aa a5.length a5) (ah:a5.length≤ab) (ai:Kd.C k62 w ac a6.length a6) (aj:a6.length≤ae) (h:laws_heldPart.f k ak a5 a6 a1=some r) :
  Calls Tryz.prog 13 #[.agg #[.int .i64 ak,.slice aa a5.length ab,.slice ac a6.length ae],.int .i64 a1] w fun e w'=>e=.returned (.int .i64 r)∧Below w.heap.size w w':=by
 have hu31:=Tryz.underlying31
 have HR0_1:=m_ ag
 have am:=m_ ah
 clear ag ah
 have HR0_2:=m_ ai
 have an:=m_ aj
 clear ai aj
 have HB:=m_ (Below.refl w.heap.size w)
 unfold laws_heldPart.f at h
 have H:=h
 clear h
 obtain ⟨af,A3,H⟩:=bd_ H
 have aq:=m_ H
 clear H
 go_enter Tryz.func13,Tryz.ntmps13
 go_upto_if 10 with (first|((with_reducible refine gate_dst (N:=2) rfl ?_);refine be_ 2 (cs:=#[.int .i64 ak,.slice aa a5.length ab,.slice ac a6.length ae]) 31 ?_;intro ar hg w5 hbox hb;have z_:=bx0_ th_ hb hbox hg;clear HB;obtain ⟨HB,a7,au,av⟩:=z_;clear hb hbox hg;have ax:=bb3_ a7.out)|((with_reducible refine gate_callee (f:=38) rfl ?_);refine goesL_ (some 8) rfl rfl Tryz.func38 kr_ rfl #[.slice aa a5.length ab,.int .i64 a1] rfl tq_0 ?_;(with_reducible refine (laws_heldIntS.calls k _ _ a5 a1 af _ ?side1 ?side2 A3.out).mono ?_);(case side1=>exact tq_4);(case side2=>exact am.out);rintro e w' ⟨rfl,⟨nd,rfl⟩⟩;refine ⟨_,rfl,?_⟩))
 (try simp only [Act.put,List.setIfInBounds_toArray,List.set_cons_zero,List.set_cons_succ])
 (try clear ax)
 have H:=aq.out
 clear aq
 by_cases c7:af < 0
 ·rw [if_pos c7] at H
  have a9:=de_ c7
  clear c7
  (first|rw [a9]|(simp only [i64_w,i32_w];rw [a9])|skip)
  obtain rfl:=oi_ H
  go_wp2
  go_ret
  exact ⟨tq_1,th_⟩
 rw [if_neg c7] at H
 have a9:=df_ c7
 clear c7
 (first|rw [a9]|(simp only [i64_w,i32_w];rw [a9])|skip)
 obtain ⟨ao,A8,H⟩:=bd_ H
 have aw:=m_ H
 clear H
 have ap:=bb3_ a7.out
 go_upto_if 16 with (first|((with_reducible refine gate_callee (f:=39) rfl ?_);refine goesL_ (some 14) rfl rfl Tryz.func39 kr_ rfl #[.slice ac a6.length ae,.int .i64 af] rfl tq_0 ?_;(with_reducible refine (laws_heldInodeS.calls k _ _ a6 af ao _ ?side1 ?side2 A8.out).mono ?_);(case side1=>exact tq_104);(case side2=>exact an.out);rintro e ay ⟨rfl,hb⟩;refine ⟨_,rfl,?_⟩;have z_:=bw1_ (kb_ a7) th_ hb;clear a7 HB;obtain ⟨a7,HB⟩:=z_;(try clear hb)))
 (try simp only [Act.put,List.setIfInBounds_toArray,List.set_cons_zero,List.set_cons_succ])
 (try clear ap)
 have H:=aw.out
 clear aw
 by_cases al:ao < 0
 ·rw [if_pos al] at H
  have a8:=de_ al
  clear al
  (first|rw [a8]|(simp only [i64_w,i32_w];rw [a8])|skip)
  obtain rfl:=oi_ H
  go_wp2
  go_ret
  exact ⟨tq_1,th_⟩
 rw [if_neg al] at H
 have a8:=df_ al
 clear al
 (first|rw [a8]|(simp only [i64_w,i32_w];rw [a8])|skip)
 obtain rfl:=oi_ H
 go_wp2
 go_ret
 exact ⟨tq_1,th_⟩

end Go.Proofs.YtleoknilacjakaaGreatDoor.PFnExactReadPart
