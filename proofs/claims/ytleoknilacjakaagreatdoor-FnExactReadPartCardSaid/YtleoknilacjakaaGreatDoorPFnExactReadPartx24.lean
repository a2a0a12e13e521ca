/- Contracts of Go functions: each call returns what the Lean function beside it computes. Conditions: as each theorem states them. -/
import Derived.Test.YtleoknilacjakaaGreatDoorPkFnExactReadPart
import Derived.Test.YtleoknilacjakaaGreatDoorPFnExactReadPartx3
import Derived.Test.YtleoknilacjakaaGreatDoorPFnExactReadPartx13
import Derived.Test.YtleoknilacjakaaGreatDoorPFnExactReadPartx20
import Derived.Test.YtleoknilacjakaaGreatDoorPFnExactReadPartx16
namespace Go.Proofs.YtleoknilacjakaaGreatDoor.PFnExactReadPart
open Go.RowKit Go.Proofs.YtleoknilacjakaaGreatDoorW.PrintWords Go.Proofs.YtleoknilacjakaaGreatDoorW.PrintLast Go.Proofs.YtleoknilacjakaaGreatDoorW.PrintMore
attribute [local go_sem] max2_int min2_int max_two min_two max_three min_three max_four min_four setCell_drewN   -- for this text's walks alone
set_option linter.unusedVariables false
set_option maxHeartbeats 8000000
set_option maxRecDepth 100000
set_option linter.unusedSimpArgs false

def impl_InodeOk.f (k:Nat) (a5:Int) (a6:Int) (a7:Int) (a8:ByteArray) (a9:List (S86)) (aa:List (S90)):Option (Bool):=(impl_within.f a7 0 65535).bind fun ab=>(if ab=true then (if a5=0 then (if a6=0 then (if a8.toList=([]:List UInt8) then (if (a9.length:Int)=0 then (some ((aa.length:Int) == 0)) else (some false)) else (some false)) else (some false)) else (if a5=1 then ((impl_isFile.f k a5 a6 a7 a8 a9 aa).bind fun ac=>(some ac)) else (if a5=2 then ((impl_isDir.f k a5 a6 a7 a8 a9 aa).bind fun ae=>(some ae)) else (some false)))) else (some false))
theorem impl_InodeOk.calls (k:Nat) (a6:Int) (a9:Int) (a8:Int) (aa:ByteArray) (ab:Option Addr) (ac:Nat) (l0_4:List (S86)) (ae:Option Addr) (af:Nat) (a7:List (S90)) (r:Bool) (w:World) (ah:Kd.C k86 w ab l0_4.length l0_4) (ai:l0_4.length≤ac) (aj:Kd.C k90 w ae a7.length a7) (ak:a7.length≤af) (h:impl_InodeOk.f k a6 a9 a8 aa l0_4 a7=some r) :
  Calls Tryz.prog 91 #[.agg #[.int .i64 a6,.int .i64 a9,.int .i64 a8,.string aa,.slice ab l0_4.length ac,.slice ae a7.length af]] w fun e w'=>e=.returned (.bool r)∧Below w.heap.size w w':=by
 have hu62:=Tryz.underlying62
 have HR0_4:=m_ ah
 have al:=m_ ai
 clear ah ai
 have HR0_5:=m_ aj
 have am:=m_ ak
 clear aj ak
 have HB:=m_ (Below.refl w.heap.size w)
 unfold impl_InodeOk.f at h
 have H:=h
 clear h
 obtain ⟨au,A2,H⟩:=bd_ H
 have b8:=m_ H
 clear H
 go_enter Tryz.func91,Tryz.ntmps91
 go_upto_if 6 with (first|((with_reducible refine gate_dst (N:=1) rfl ?_);(try (refine gate_guard (by rfl) ?_;dsimp only));refine be_ 1 (cs:=#[.int .i64 a6,.int .i64 a9,.int .i64 a8,.string aa,.slice ab l0_4.length ac,.slice ae a7.length af]) 62 ?_;intro b9 hg w4 hbox hb;have z_:=bx0_ th_ hb hbox hg;clear HB;obtain ⟨HB,a5,ba,bb⟩:=z_;clear hb hbox hg;have be:=bb6_ a5.out)|((with_reducible refine gate_callee (f:=57) rfl ?_);refine goesL_ (some 5) rfl rfl Tryz.func57 kr_ rfl #[.int .i64 a8,.int .i64 0,.int .i64 65535] rfl tq_0 ?_;(with_reducible refine (impl_within.calls a8 0 65535 au _ A2.out).mono ?_);rintro e w' ⟨rfl,⟨nd,rfl⟩⟩;refine ⟨_,rfl,?_⟩))
 (try simp only [Act.put,List.setIfInBounds_toArray,List.set_cons_zero,List.set_cons_succ])
 (try clear be)
 have H:=b8.out
 clear b8
 by_cases c6:au=true
 rotate_left
 ·replace c6:=Bool.eq_false_iff.mpr c6
  subst c6
  rw [if_neg nf_] at H
  obtain rfl:=oi_ H
  go_wp2
  go_ret
  exact ⟨tq_1,th_⟩
 subst c6
 rw [if_pos rfl] at H
 have bc:=m_ H
 clear H
 have bf:=bb6_ a5.out
 go_upto_if 9 with (fail)
 (try clear bf)
 have H:=bc.out
 clear bc
 by_cases c9:a6=0
 ·rw [if_pos c9] at H
  have ag:=qa_ c9
  have b5:=qb_ c9
  clear c9
  (first|rw [ag]|(simp only [i64_w,i32_w];rw [ag])|skip)
  by_cases ao:a9=0
  rotate_left
  ·rw [if_neg ao] at H
   have av:=qc_ ao
   have aw:=qd_ ao
   obtain rfl:=oi_ H
   have bg:=bb6_ a5.out
   go_wp2
   go_ret
   exact ⟨tq_1,th_⟩
  rw [if_pos ao] at H
  have av:=qa_ ao
  have aw:=qb_ ao
  clear ao
  by_cases ap:aa.toList=([]:List UInt8)
  rotate_left
  ·rw [if_neg ap] at H
   have ax:=qc_ ap
   have ay:=qd_ ap
   obtain rfl:=oi_ H
   have bh:=bb6_ a5.out
   go_wp2
   go_ret
   exact ⟨tq_1,th_⟩
  rw [if_pos ap] at H
  have ax:=qa_ ap
  have ay:=qb_ ap
  clear ap
  by_cases an:(l0_4.length:Int)=0
  ·rw [if_pos an] at H
   have az:=qa_ an
   have b0:=qb_ an
   clear an
   obtain rfl:=oi_ H
   have bi:=bb6_ a5.out
   go_wp2
   go_ret
   exact ⟨tq_1,th_⟩
  rw [if_neg an] at H
  have az:=qc_ an
  have b0:=qd_ an
  have bd:¬ (l0_4=[]):=fun h_=>an (by rw [h_];rfl)
  obtain rfl:=oi_ H
  have bj:=bb6_ a5.out
  go_wp2
  go_ret
  exact ⟨tq_1,th_⟩
 rw [if_neg c9] at H
 have ag:=qc_ c9
 have b5:=qd_ c9
 (first|rw [ag]|(simp only [i64_w,i32_w];rw [ag])|skip)
 by_cases aq:a6=1
 ·rw [if_pos aq] at H
  have b1:=qa_ aq
  have b2:=qb_ aq
  clear aq
  obtain ⟨b6,bl,H⟩:=bd_ H
  obtain rfl:=oi_ H
  have bm:=bb6_ a5.out
  go_wp2_with (first|((with_reducible refine gate_callee (f:=108) rfl ?_);refine goesL_ (some 34) rfl rfl Tryz.func108 kr_ rfl #[.agg #[.int .i64 a6,.int .i64 a9,.int .i64 a8,.string aa,.slice ab l0_4.length ac,.slice ae a7.length af]] rfl tq_0 ?_;(with_reducible refine (impl_isFile.calls k a6 a9 a8 aa _ _ l0_4 _ _ a7 b6 _ ?side1 ?side2 ?side3 ?side4 bl.out).mono ?_);(case side1=>exact tq_103);(case side2=>exact al.out);(case side3=>exact tq_102);(case side4=>exact am.out);rintro e bp ⟨rfl,hb⟩;refine ⟨_,rfl,?_⟩;have z_:=bw1_ (kb_ a5) th_ hb;clear a5 HB;obtain ⟨a5,HB⟩:=z_;(try clear hb)))
  go_ret
  exact ⟨tq_1,th_⟩
 rw [if_neg aq] at H
 have b1:=qc_ aq
 have b2:=qd_ aq
 by_cases ar:a6=2
 rotate_left
 ·rw [if_neg ar] at H
  have b3:=qc_ ar
  have b4:=qd_ ar
  obtain rfl:=oi_ H
  go_wp2
  go_ret
  exact ⟨tq_1,th_⟩
 rw [if_pos ar] at H
 have b3:=qa_ ar
 have b4:=qb_ ar
 clear ar
 obtain ⟨b7,bn,H⟩:=bd_ H
 obtain rfl:=oi_ H
 have bo:=bb6_ a5.out
 go_wp2_with (first|((with_reducible refine gate_callee (f:=109) rfl ?_);refine goesL_ (some 38) rfl rfl Tryz.func109 kr_ rfl #[.agg #[.int .i64 a6,.int .i64 a9,.int .i64 a8,.string aa,.slice ab l0_4.length ac,.slice ae a7.length af]] rfl tq_0 ?_;(with_reducible refine (impl_isDir.calls k a6 a9 a8 aa _ _ l0_4 _ _ a7 b7 _ ?side1 ?side2 ?side3 ?side4 bn.out).mono ?_);(case side1=>exact tq_103);(case side2=>exact al.out);(case side3=>exact tq_102);(case side4=>exact am.out);rintro e bq ⟨rfl,hb⟩;refine ⟨_,rfl,?_⟩;have z_:=bw1_ (kb_ a5) th_ hb;clear a5 HB;obtain ⟨a5,HB⟩:=z_;(try clear hb)))
 go_ret
 exact ⟨tq_1,th_⟩

mutual
def impl_inodeText.l0:Nat→List ByteArray→List (S86)→Int→Int→Int→Int→Int→ByteArray→List (S86)→List (S90)→Option (List ByteArray)
 | 0,_,_,_,_,_,_,_,_,_,_=>none
 | k+1,x3,ac,af,ab,a6,a7,a8,a9,aa,a5=>if ab < af then (if 0≤ab then (if ab < (ac.length:Int) then ((impl_RecWord.f k ((rd_T86 ac ab).f0) ((rd_T86 ac ab).f1) ((rd_T86 ac ab).f2)).bind fun ae=>(if x3.length < 8796093022208 then (impl_inodeText.l0 k (x3++[ae]) ac af (wrap64 (ab+1)) a6 a7 a8 a9 aa a5) else (none))) else (none)) else (none)) else (impl_inodeText.l1 k x3 a5 (a5.length:Int) 0)
def impl_inodeText.l1:Nat→List ByteArray→List (S90)→Int→Int→Option (List ByteArray)
 | 0,_,_,_,_=>none
 | k+1,x3,a6,a8,a5=>if a5 < a8 then (if 0≤a5 then (if a5 < (a6.length:Int) then ((impl_EntryWord.f k ((rd_T90 a6 a5).f0) ((rd_T90 a6 a5).f1)).bind fun a7=>(if x3.length < 8796093022208 then (impl_inodeText.l1 k (x3++[a7]) a6 a8 (wrap64 (a5+1))) else (none))) else (none)) else (none)) else (impl_inodeText.l2 k x3)
def impl_inodeText.l2:Nat→List ByteArray→Option (List ByteArray)
 | 0,_=>none
 | k+1,x3=>if (x3.length:Int) < 8 then ((impl_zeroWord.f).bind fun a5=>(if x3.length < 8796093022208 then (impl_inodeText.l2 k (x3++[a5])) else (none))) else (some x3)
end
def impl_inodeText.f (k:Nat) (a8:Int) (a9:Int) (aa:Int) (ab:ByteArray) (a5:List (S86)) (ae:List (S90)):Option (List ByteArray):=(impl_NumText.f k a8 1).bind fun a6=>((impl_NumText.f k a9 2).bind fun a7=>(if a6.size+a7.size≤9223372036854775807 then ((impl_NumText.f k aa 2).bind fun ac=>(if (a6++a7).size+ac.size≤9223372036854775807 then ((impl_WordText.f ((a6++a7)++ac)).bind fun af=>((impl_WordText.f ab).bind fun ag=>(impl_inodeText.l0 k (([af,ag]:List ByteArray)) a5 (a5.length:Int) 0 a8 a9 aa ab a5 ae))) else (none))) else (none)))
def impl_inodeText.T1:Bool × List (List Nat × List Nat):=(true,[([],[]),([0],[0]),([1],[1]),([],[]),([3],[3]),([4,2],[4]),([2,5],[2,5]),([],[]),([7],[7]),([8,5],[8]),([6,9],[6,9]),([10,9],[10]),([],[]),([12],[12]),([13,11],[13]),([11,14],[11,14]),([15,14,0,1,2,3,4,5,6,7,8,9,10,11,12,13,14,15],[15])])
def impl_inodeText.B1:List Nat:=[0,1,3,0,8,31,63,0,128,447,1023,2047,0,4096,16383,32767,65535]
theorem impl_inodeText.tab1:rtab .any (opsOf Tryz.f92 1)=impl_inodeText.T1:=by kernel_rfl
theorem impl_inodeText.bits1:waitsOk impl_inodeText.T1.2 impl_inodeText.B1=true:=by kernel_rfl
theorem impl_inodeText.calls (k:Nat) (ab:Int) (ac:Int) (ae:Int) (af:ByteArray) (an:Option Addr) (ai:Nat) (l0_4:List (S86)) (ao:Option Addr) (aj:Nat) (a6:List (S90)) (r:List ByteArray) (w:World) (bn:Kd.C k86 w an l0_4.length l0_4) (bo:l0_4.length≤ai) (bp:Kd.C k90 w ao a6.length a6) (bq:a6.length≤aj) (h:impl_inodeText.f k ab ac ae af l0_4 a6=some r) :
  Calls Tryz.prog 92 #[.agg #[.int .i64 ab,.int .i64 ac,.int .i64 ae,.string af,.slice an l0_4.length ai,.slice ao a6.length aj]] w fun e w'=>∃ v0_:Value,e=.returned (v0_)∧Kd.R Kd.string 9 w' w.heap.size (fun _=>True) v0_ r∧Below w.heap.size w w':=by
 have hu62:=Tryz.underlying62
 have hu86:=Tryz.underlying86
 have hu90:=Tryz.underlying90
 have HR0_4:=m_ bn
 have dj:=m_ bo
 clear bn bo
 have HR0_5:=m_ bp
 have dk:=m_ bq
 clear bp bq
 have HB:=m_ (Below.refl w.heap.size w)
 unfold impl_inodeText.f at h
 have H:=h
 clear h
 obtain ⟨ay,A2,H⟩:=bd_ H
 obtain ⟨az,A3,H⟩:=bd_ H
 obtain ⟨c4,H⟩:=fc_ H
 have cc:=eq_true c4
 have cd:=de_ c4
 try have ce:(9223372036854775807 < ay.size+az.size)=False:=eq_false (Nat.not_lt.2 c4)
 obtain ⟨b7,A5,H⟩:=bd_ H
 obtain ⟨c6,H⟩:=fc_ H
 have cf:=eq_true c6
 have cg:=de_ c6
 try have bf:(9223372036854775807 < (ay++az).size+b7.size)=False:=eq_false (Nat.not_lt.2 c6)
 try have c6b2s:(9223372036854775807 < ay.size+az.size+b7.size)=False:=by rw [← ByteArray.size_append];exact bf
 obtain ⟨b0,A7,H⟩:=bd_ H
 obtain ⟨b1,A8,H⟩:=bd_ H
 obtain ⟨cj,b8⟩:∃ y_:List ByteArray,y_=(([b0,b1]:List ByteArray)):=⟨_,rfl⟩
 replace H:(impl_inodeText.l0 k cj l0_4 (l0_4.length:Int) 0 ab ac ae af l0_4 a6)=some r:=rh_ b8 H
 have br:=m_ b8
 clear b8
 have H':=m_ H
 clear H
 go_enter Tryz.func92,Tryz.ntmps92
 try go_wp2_with (first|((with_reducible refine gate_dst (N:=1) rfl ?_);refine be_ 1 (cs:=#[.int .i64 ab,.int .i64 ac,.int .i64 ae,.string af,.slice an l0_4.length ai,.slice ao a6.length aj]) 62 ?_;intro aa hg w9 hbox hb;have z_:=bx0_ th_ hb hbox hg;clear HB;obtain ⟨HB,a5,dl,dm⟩:=z_;clear hb hbox hg))
 have z_:=dw1_ a5 HB
 clear a5 HB
 obtain ⟨a5,HB⟩:=z_
 refine start_ (n:=17) (S:=fun w'=>w'.cell? ⟨aa,0,none⟩=some (.int .i64 ab)∧w'.cell? ⟨aa,1,none⟩=some (.int .i64 ac)∧w'.cell? ⟨aa,2,none⟩=some (.int .i64 ae)∧w'.cell? ⟨aa,3,none⟩=some (.string af)∧w'.cell? ⟨aa,4,none⟩=some (.slice an l0_4.length ai)∧w'.cell? ⟨aa,5,none⟩=some (.slice ao a6.length aj)) (ds:=[]) bq_244 kr_ rfl rfl (bk6_ a5.out) (fun hHeld=>?_);refine with_tabW impl_inodeText.tab1 impl_inodeText.bits1 (fun HT_ HW_=>?_)
 generalize w9.drew=dz at a5 HB hHeld ⊢
 refine yr_ 0 8 bq_245 HT_ ?_
 refine yr_ 3 11 bq_246 HT_ ?_
 refine yr_ 7 15 bq_247 HT_ ?_
 refine yr_ 12 20 bq_248 HT_ ?_
 refine tr_ 1 9 bq_249 HT_ HW_ hHeld ?_
 refine tr_ 4 12 bq_250 HT_ HW_ hHeld ?_
 refine tr_ 8 16 bq_251 HT_ HW_ hHeld ?_
 refine tr_ 13 21 bq_252 HT_ HW_ hHeld ?_
 refine one_ (i:=2) (N:=some 10) bq_253 rfl rfl (one_of HT_.out kr_) (by decide) (fun K hK=>?_)
 refine goes_ Tryz.func99 kr_ rfl #[.int .i64 ab,.int .i64 1] (by rfl) rfl rfl tq_0 ?_
 with_reducible refine (impl_NumText.calls k ab 1 ay _ A2.out).mono ?_
 rintro e e0 ⟨rfl,hb⟩
 refine ⟨_,rfl,?_⟩
 have z_:=bw1_ (kb_ a5) th_ hb
 clear a5 HB
 obtain ⟨a5,HB⟩:=z_
 (try clear hb)
 refine hK.out _ _ (bk6_ a5.out) (fun hHeld=>?_)
 clear hK K
 refine nm_ (some 10) ?_
 refine one_ (i:=5) (N:=some 13) bq_254 rfl rfl (one_of HT_.out kr_) (by decide) (fun K hK=>?_)
 refine goes_ Tryz.func99 kr_ rfl #[.int .i64 ac,.int .i64 2] (by rfl) rfl rfl tq_0 ?_
 with_reducible refine (impl_NumText.calls k ac 2 az _ A3.out).mono ?_
 rintro e e1 ⟨rfl,hb⟩
 refine ⟨_,rfl,?_⟩
 have z_:=bw1_ (kb_ a5) th_ hb
 clear a5 HB
 obtain ⟨a5,HB⟩:=z_
 (try clear hb)
 refine hK.out _ _ (bk6_ a5.out) (fun hHeld=>?_)
 clear hK K
 refine nm_ (some 13) ?_
 refine yr_ 6 14 bq_255 HT_ ?_
 refine one_ (i:=9) (N:=some 17) bq_256 rfl rfl (one_of HT_.out kr_) (by decide) (fun K hK=>?_)
 refine goes_ Tryz.func99 kr_ rfl #[.int .i64 ae,.int .i64 2] (by rfl) rfl rfl tq_0 ?_
 with_reducible refine (impl_NumText.calls k ae 2 b7 _ A5.out).mono ?_
 rintro e e2 ⟨rfl,hb⟩
 refine ⟨_,rfl,?_⟩
 have z_:=bw1_ (kb_ a5) th_ hb
 clear a5 HB
 obtain ⟨a5,HB⟩:=z_
 (try clear hb)
 refine hK.out _ _ (bk6_ a5.out) (fun hHeld=>?_)
 clear hK K
 refine nm_ (some 17) ?_
 refine yr_ 10 18 bq_257 HT_ ?_
 refine one_ (i:=11) (N:=some 19) bq_258 rfl rfl (one_of HT_.out kr_) (by decide) (fun K hK=>?_)
 refine goes_ Tryz.func98 kr_ rfl #[.string ((ay++az)++b7)] (by rfl) rfl rfl tq_0 ?_
 with_reducible refine (impl_WordText.calls ((ay++az)++b7) b0 _ A7.out).mono ?_
 rintro e e3 ⟨rfl,hb⟩
 refine ⟨_,rfl,?_⟩
 have z_:=bw1_ (kb_ a5) th_ hb
 clear a5 HB
 obtain ⟨a5,HB⟩:=z_
 (try clear hb)
 refine hK.out _ _ (bk6_ a5.out) (fun hHeld=>?_)
 clear hK K
 refine nm_ (some 19) ?_
 refine one_ (i:=14) (N:=some 22) bq_259 rfl rfl (one_of HT_.out kr_) (by decide) (fun K hK=>?_)
 refine goes_ Tryz.func98 kr_ rfl #[.string af] (by rfl) rfl rfl tq_0 ?_
 with_reducible refine (impl_WordText.calls af b1 _ A8.out).mono ?_
 rintro e e4 ⟨rfl,hb⟩
 refine ⟨_,rfl,?_⟩
 have z_:=bw1_ (kb_ a5) th_ hb
 clear a5 HB
 obtain ⟨a5,HB⟩:=z_
 (try clear hb)
 refine hK.out _ _ (bk6_ a5.out) (fun hHeld=>?_)
 clear hK K
 refine nm_ (some 22) ?_
 refine one_ (i:=15) (N:=some 23) bq_260 rfl rfl (one_of HT_.out kr_) (by decide) (fun K hK=>?_)
 refine Kd.R_lit_step Kd.string _ 9 ?hg (N:=23) ?hd (xs:=([b0,b1]:List ByteArray)) (inner:=[.string b0,.string b1]) (ok:=fun _=>True) (okp:=fun _=>True) ?hr ?hp (fun _ hk=>hk) trivial (Below.refl _ _) (Nat.le_refl _) (by simp) ?_;(case hd=>rfl);(case hg=>rfl);(case hr=>first|(go_simp;done)|(go_simp;rfl));(case hp=>exact (Reps.one (show Kd.M Kd.string _ _ _ b0 [.string b0] from rfl) (Reps.one (show Kd.M Kd.string _ _ _ b1 [.string b1] from rfl) (Reps.none _ _))))
 intro v548 e5 ho17 hb hg_ hnew_
 clear hg_ hnew_
 (first|rw [← br.out] at ho17|(simp only [Int.reduceToNat] at ho17;rw [← br.out] at ho17))
 have z_:=p_ (Kd.R_lower ho17 (below_size th_)) <| bw1_ (kb_ a5) th_ hb
 clear a5 HB
 obtain ⟨ck,a5,HB⟩:=z_
 clear hb ho17
 refine hK.out _ _ (bk6_ a5.out) (fun hHeld=>?_)
 clear hK K
 refine nm_ (some 23) ?_
 refine yr_ 16 3 bq_261 HT_ ?_
 refine done_ (done_of HT_.out kr_) ?_
 have ax:=bb6_ a5.out
 try go_wp2
 go_loopg [3,27] k (fun kq v3 v27 w'=>∃ (b2:List ByteArray) (a7:Int),v27=.int .i64 a7∧Aside0 (impl_inodeText.l0 kq b2 l0_4 (l0_4.length:Int) a7 ab ac ae af l0_4 a6=some r)∧Aside0 (kq≤k)∧Aside0 (Kd.R Kd.string 9 w' w.heap.size (fun _=>True) v3 b2)∧Aside0 (w'.heap[aa]?=some (.cells #[.int .i64 ab,.int .i64 ac,.int .i64 ae,.string af,(.slice an l0_4.length ai),(.slice ao a6.length aj)] 62 (0,0)))∧Aside0 (Below w.heap.size w w'))
 case atStart=>exact ⟨(cj),(0),tq_3,H',⟨Nat.le_refl _⟩,⟨(raR_ ck)⟩,⟨(kb_ a5)⟩,⟨th_⟩⟩
 case round =>
 clear H'
 try clear p2;try clear c4;try clear cc;try clear cd;try clear ce;try clear c6;try clear cf;try clear cg;try clear bf;try clear c9;try clear ax
 obtain ⟨b2,a7,rfl,HA,HK1,a8,a5,HB⟩:=hrel
 cases gk with
 | zero=>exact absurd HA.out (by simp [impl_inodeText.l0])
 | succ k1 =>
 have H:=HA.out
 clear HA
 simp only [impl_inodeText.l0] at H
 by_cases bs:a7 < (l0_4.length:Int)
 ·rw [if_pos bs] at H
  have b9:=de_ bs
  clear bs
  obtain ⟨d7,H⟩:=fc_ H
  have bu:=de_ d7
  clear d7
  obtain ⟨d8,H⟩:=fc_ H
  have bv:=de_ d8
  clear d8
  obtain ⟨bg,du,H⟩:=bd_ H
  obtain ⟨d9,H⟩:=fc_ H
  have cl:=m_ d9
  clear d9
  obtain ⟨cm,ba⟩:∃ y_:List ByteArray,y_=(b2++[bg]):=⟨_,rfl⟩
  replace H:(impl_inodeText.l0 k1 cm l0_4 (l0_4.length:Int) (wrap64 (a7+1)) ab ac ae af l0_4 a6)=some r:=rh_ ba H
  have cn:=m_ ba
  clear ba
  have H':=m_ H
  clear H
  have bb:0≤(a7:Int):=od_ tq_2
  have bc:a7 < (l0_4.length:Int):=od_ tq_2
  obtain ⟨bw,db,ak,al,am⟩:=at_T86 HR0_4.out a7 bb bc
  cases db
  replace ak:=hx_ HB.out ak
  replace al:=hx_ HB.out al
  replace am:=hx_ HB.out am
  replace bb:=eq_true bb
  replace bc:=eq_true bc
  go_wp2_with (first|((with_reducible refine gate_dst (N:=5) rfl ?_);refine be_ 5 (cs:=#[.int .i64 0,.int .i64 0,.string (⟨#[]⟩:ByteArray)]) 86 ?_;intro bx hg e6 hbox hb;have z_:=p_ (Kd.R_below (raR_ a8) hb) <| bx1_ (kb_ a5) th_ hb hbox hg;clear a8 a5 HB;obtain ⟨a8,a5,HB,ag,dn,dp,ap,b3⟩:=z_;clear hb hbox hg;obtain ⟨co,cp⟩:=an2_ b3 ap;have bh:=bb3_ ag.out)|((with_reducible refine gate_callee (f:=105) rfl ?_);refine goesL_ (some 33) rfl rfl Tryz.func105 kr_ rfl #[.agg #[.int .i64 ((rd_T86 l0_4 a7).f0),.int .i64 ((rd_T86 l0_4 a7).f1),.string ((rd_T86 l0_4 a7).f2)]] rfl tq_0 ?_;(with_reducible refine (impl_RecWord.calls k1 ((rd_T86 l0_4 a7).f0) ((rd_T86 l0_4 a7).f1) ((rd_T86 l0_4 a7).f2) bg _ du.out).mono ?_);rintro e e7 ⟨rfl,hb⟩;refine ⟨_,rfl,?_⟩;have z_:=p_ (Kd.R_below (by (with_reducible repeat (first|apply Kd.R_alloc|apply Kd.R_drewN|apply Kd.R_drew));exact (Kd.R_mono (rR_ (rR_ (rR_ (Kd.R_types a8.out ag.out (by decide))))) (fun _ h_=>h_.1))) hb) <| p_ (blk_below (g:=aa) (o:=.cells #[.int .i64 ab,.int .i64 ac,.int .i64 ae,.string af,.slice (some bw) l0_4.length ai,.slice ao a6.length aj] 62 (0,0)) (fr_ a5.out ap.out) hb) <| p_ (blk_below (g:=bx) (o:=.cells #[.int .i64 ((rd_T86 l0_4 a7).f0),.int .i64 ((rd_T86 l0_4 a7).f1),.string ((rd_T86 l0_4 a7).f2)] 86 (0,0)) (pt_ ag.out) hb) <| a_ (below_step th_ hb);clear a8 a5 ag HB;obtain ⟨a8,a5,ag,HB⟩:=z_;(try clear hb);(try clear hk))|((with_reducible refine gate_builtin (b:=.append) (xs:=#[.tmp 31,.tmp 34]) rfl ?_);at_builtin;refine Kd.R_append Kd.string (w0:=w) w.heap.size rfl (.tmp 31) (.tmp 34) 55 9 (.string ⟨#[]⟩) 16 rfl Tryz.underlying55 info9 rfl (by decide) (by omega) u3 b2 bg [.string bg] (fun _=>True) (fun _=>False) rfl rfl ?aP (fun _ hk=>hk.elim) ?aF ?aO ?aB ?aS ?aL ?_;(case aP=>exact rfl);(case aB=>exact th_);(case aF=>exact (fun _ _=>trivial));(case aO=>exact (raR_ a8));(case aS=>exact (below_size th_));(case aL=>have:=cl.out;omega);intro v554 e8 ho hb hg hat;rw [← cn.out] at ho;have z_:=p_ (blk_grown (g:=aa) (o:=.cells #[.int .i64 ab,.int .i64 ac,.int .i64 ae,.string af,.slice (some bw) l0_4.length ai,.slice ao a6.length aj] 62 (0,0)) (kb_ a5) hg (Kd.R_ne a8.out a5.out (by decide))) <| p_ (blk_grown (g:=bx) (o:=.cells #[.int .i64 ((rd_T86 l0_4 a7).f0),.int .i64 ((rd_T86 l0_4 a7).f1),.string ((rd_T86 l0_4 a7).f2)] 86 (0,0)) (kb_ ag) hg (Kd.R_ne a8.out ag.out (by decide))) <| p_ (hb) <| a_ (ho);clear a5 ag HB a8;obtain ⟨a5,ag,HB,cq⟩:=z_;clear ho hb hg hat))
  go_roundg k1
  case measure=>have:=HK1.out;omega
  case rel=>exact ⟨(cm),(wrap64 (a7+1)),tq_3,H',⟨tq_14⟩,⟨(raR_ cq)⟩,⟨(kb_ a5)⟩,⟨th_⟩⟩
 rw [if_neg bs] at H
 have b9:=df_ bs
 clear bs
 have H':=m_ H
 clear H
 have b4:=bb6_ a5.out
 go_wp2
 go_loopg [3,40] k1 (fun kq v3 v40 w'=>∃ (b5:List ByteArray) (a9:Int),v40=.int .i64 a9∧Aside0 (impl_inodeText.l1 kq b5 a6 (a6.length:Int) a9=some r)∧Aside0 (kq≤k1)∧Aside0 (Kd.R Kd.string 9 w' w.heap.size (fun _=>True) v3 b5)∧Aside0 (w'.heap[aa]?=some (.cells #[.int .i64 ab,.int .i64 ac,.int .i64 ae,.string af,(.slice an l0_4.length ai),(.slice ao a6.length aj)] 62 (0,0)))∧Aside0 (Below w.heap.size w w'))
 case atStart=>exact ⟨(b2),(0),tq_3,H',⟨Nat.le_refl _⟩,⟨(raR_ a8)⟩,⟨(kb_ a5)⟩,⟨th_⟩⟩
 case round =>
 clear H'
 try clear c1;try clear c2;try clear p2;try clear c4;try clear cc;try clear cd;try clear ce;try clear p5;try clear q5;try clear hx5;try clear c6;try clear cf;try clear cg;try clear bf;try clear p6;try clear c9;try clear dv;try clear bs;try clear b9;try clear d7;try clear bu;try clear d8;try clear bv;try clear d9;try clear dw;try clear ax;try clear bh;try clear b4;try clear ax;try clear bh;try clear b4;try clear ak;try clear al;try clear am;try clear p2;try clear bb;try clear bc
 obtain ⟨b5,a9,rfl,HA,da,a8,a5,HB⟩:=hrel
 cases gk with
 | zero=>exact absurd HA.out (by simp [impl_inodeText.l1])
 | succ k2 =>
 have H:=HA.out
 clear HA
 simp only [impl_inodeText.l1] at H
 by_cases ch:a9 < (a6.length:Int)
 ·rw [if_pos ch] at H
  have bz:=de_ ch
  clear ch
  obtain ⟨dc,H⟩:=fc_ H
  have cr:=de_ dc
  clear dc
  obtain ⟨dd,H⟩:=fc_ H
  have ct:=de_ dd
  clear dd
  obtain ⟨bi,dx,H⟩:=bd_ H
  obtain ⟨de,H⟩:=fc_ H
  have cu:=m_ de
  clear de
  obtain ⟨cv,bd⟩:∃ y_:List ByteArray,y_=(b5++[bi]):=⟨_,rfl⟩
  replace H:(impl_inodeText.l1 k2 cv a6 (a6.length:Int) (wrap64 (a9+1)))=some r:=rh_ bd H
  have cw:=m_ bd
  clear bd
  have H':=m_ H
  clear H
  have bj:0≤(a9:Int):=od_ tq_2
  have bl:a9 < (a6.length:Int):=od_ tq_2
  obtain ⟨ca,df,ar,au⟩:=at_T90 HR0_5.out a9 bj bl
  cases df
  replace ar:=hx_ HB.out ar
  replace au:=hx_ HB.out au
  replace bj:=eq_true bj
  replace bl:=eq_true bl
  go_wp2_with (first|((with_reducible refine gate_dst (N:=7) rfl ?_);refine be_ 7 (cs:=#[.int .i64 0,.string (⟨#[]⟩:ByteArray)]) 90 ?_;intro cb hg e9 hbox hb;have z_:=p_ (Kd.R_below (raR_ a8) hb) <| bx1_ (kb_ a5) th_ hb hbox hg;clear a8 a5 HB;obtain ⟨a8,a5,HB,ah,dq,dr,aq,b6⟩:=z_;clear hb hbox hg;obtain ⟨cx,cy⟩:=an2_ b6 aq;have cz:=bb2_ ah.out)|((with_reducible refine gate_callee (f:=107) rfl ?_);refine goesL_ (some 46) rfl rfl Tryz.func107 kr_ rfl #[.agg #[.int .i64 ((rd_T90 a6 a9).f0),.string ((rd_T90 a6 a9).f1)]] rfl tq_0 ?_;(with_reducible refine (impl_EntryWord.calls k2 ((rd_T90 a6 a9).f0) ((rd_T90 a6 a9).f1) bi _ dx.out).mono ?_);rintro e ea ⟨rfl,hb⟩;refine ⟨_,rfl,?_⟩;have z_:=p_ (Kd.R_below (by (with_reducible repeat (first|apply Kd.R_alloc|apply Kd.R_drewN|apply Kd.R_drew));exact (Kd.R_mono (rR_ (rR_ (Kd.R_types a8.out ah.out (by decide)))) (fun _ h_=>h_.1))) hb) <| p_ (blk_below (g:=aa) (o:=.cells #[.int .i64 ab,.int .i64 ac,.int .i64 ae,.string af,.slice an l0_4.length ai,.slice (some ca) a6.length aj] 62 (0,0)) (fr_ a5.out aq.out) hb) <| p_ (blk_below (g:=cb) (o:=.cells #[.int .i64 ((rd_T90 a6 a9).f0),.string ((rd_T90 a6 a9).f1)] 90 (0,0)) (pt_ ah.out) hb) <| a_ (below_step th_ hb);clear a8 a5 ah HB;obtain ⟨a8,a5,ah,HB⟩:=z_;(try clear hb);(try clear hk))|((with_reducible refine gate_builtin (b:=.append) (xs:=#[.tmp 44,.tmp 47]) rfl ?_);at_builtin;refine Kd.R_append Kd.string (w0:=w) w.heap.size rfl (.tmp 44) (.tmp 47) 55 9 (.string ⟨#[]⟩) 16 rfl Tryz.underlying55 info9 rfl (by decide) (by omega) u3 b5 bi [.string bi] (fun _=>True) (fun _=>False) rfl rfl ?aP (fun _ hk=>hk.elim) ?aF ?aO ?aB ?aS ?aL ?_;(case aP=>exact rfl);(case aB=>exact th_);(case aF=>exact (fun _ _=>trivial));(case aO=>exact (raR_ a8));(case aS=>exact (below_size th_));(case aL=>have:=cu.out;omega);intro v560 eb ho hb hg hat;rw [← cw.out] at ho;have z_:=p_ (blk_grown (g:=aa) (o:=.cells #[.int .i64 ab,.int .i64 ac,.int .i64 ae,.string af,.slice an l0_4.length ai,.slice (some ca) a6.length aj] 62 (0,0)) (kb_ a5) hg (Kd.R_ne a8.out a5.out (by decide))) <| p_ (blk_grown (g:=cb) (o:=.cells #[.int .i64 ((rd_T90 a6 a9).f0),.string ((rd_T90 a6 a9).f1)] 90 (0,0)) (kb_ ah) hg (Kd.R_ne a8.out ah.out (by decide))) <| p_ (hb) <| a_ (ho);clear a5 ah HB a8;obtain ⟨a5,ah,HB,d0⟩:=z_;clear ho hb hg hat))
  go_roundg k2
  case measure=>have:=HK1.out;have:=da.out;omega
  case rel=>exact ⟨(cv),(wrap64 (a9+1)),tq_3,H',⟨(by have:=HK1.out;have:=da.out;omega)⟩,⟨(raR_ d0)⟩,⟨(kb_ a5)⟩,⟨th_⟩⟩
 rw [if_neg ch] at H
 have bz:=df_ ch
 clear ch
 have H':=m_ H
 clear H
 go_wp2
 go_loopg [3] k2 (fun kq v3 w'=>∃ (av:List ByteArray),Aside0 (impl_inodeText.l2 kq av=some r)∧Aside0 (kq≤k2)∧Aside0 (Kd.R Kd.string 9 w' w.heap.size (fun _=>True) v3 av)∧Aside0 (w'.heap[aa]?=some (.cells #[.int .i64 ab,.int .i64 ac,.int .i64 ae,.string af,(.slice an l0_4.length ai),(.slice ao a6.length aj)] 62 (0,0)))∧Aside0 (Below w.heap.size w w'))
 case atStart=>exact ⟨(b5),H',⟨Nat.le_refl _⟩,⟨(raR_ a8)⟩,⟨(kb_ a5)⟩,⟨th_⟩⟩
 case round =>
 clear H'
 try clear c1;try clear c2;try clear p2;try clear c3;try clear c4;try clear cc;try clear cd;try clear ce;try clear p5;try clear q5;try clear hx5;try clear c6;try clear cf;try clear cg;try clear bf;try clear p6;try clear c9;try clear dv;try clear bs;try clear b9;try clear d7;try clear bu;try clear d8;try clear bv;try clear d9;try clear dw;try clear ch;try clear bz;try clear dc;try clear cr;try clear dd;try clear ct;try clear de;try clear ec;try clear ax;try clear bh;try clear b4;try clear cz;try clear ax;try clear bh;try clear b4;try clear cz;try clear ak;try clear al;try clear am;try clear ar;try clear au;try clear p2;try clear p5;try clear bb;try clear bj;try clear p6;try clear q5;try clear bc;try clear bl
 obtain ⟨av,HA,HK3,a8,a5,HB⟩:=hrel
 cases gk with
 | zero=>exact absurd HA.out (by simp [impl_inodeText.l2])
 | succ k3 =>
 have H:=HA.out
 clear HA
 simp only [impl_inodeText.l2] at H
 have d1:=m_ H
 clear H
 obtain ⟨dg,dh,di⟩:=Kd.R_slice a8.out
 subst di
 go_upto_if 52 with (fail)
 (try clear ax)
 (try clear b4)
 (try clear ax)
 (try clear b4)
 have H:=d1.out
 clear d1
 by_cases ci:(av.length:Int) < 8
 rotate_left
 ·rw [if_neg ci] at H
  have aw:=df_ ci
  have d2:decide (av.length < 8)=false:=df_ (by omega)
  clear ci
  (first|rw [aw]|(simp only [i64_w,i32_w];rw [aw])|skip)
  obtain rfl:=oi_ H
  go_wp2
  go_ret
  exact ⟨_,tq_1,(raR_ a8),th_⟩
 rw [if_pos ci] at H
 have aw:=de_ ci
 have d2:decide (av.length < 8)=true:=de_ (by omega)
 clear ci
 (first|rw [aw]|(simp only [i64_w,i32_w];rw [aw])|skip)
 obtain ⟨bm,dy,H⟩:=bd_ H
 obtain ⟨dt,H⟩:=fc_ H
 have d3:=m_ dt
 clear dt
 obtain ⟨d4,be⟩:∃ y_:List ByteArray,y_=(av++[bm]):=⟨_,rfl⟩
 replace H:(impl_inodeText.l2 k3 d4)=some r:=rh_ be H
 have d5:=m_ be
 clear be
 have H':=m_ H
 clear H
 go_wp2_with (first|((with_reducible refine gate_callee (f:=88) rfl ?_);refine goesL_ (some 54) rfl rfl Tryz.func88 kr_ rfl #[] rfl tq_0 ?_;(with_reducible refine (impl_zeroWord.calls  bm _ dy.out).mono ?_);rintro e ed ⟨rfl,hb⟩;refine ⟨_,rfl,?_⟩;have z_:=p_ (Kd.R_below (raR_ a8) hb) <| bw1_ (kb_ a5) th_ hb;clear a8 a5 HB;obtain ⟨a8,a5,HB⟩:=z_;(try clear hb))|((with_reducible refine gate_builtin (b:=.append) (xs:=#[.tmp 53,.tmp 55]) rfl ?_);at_builtin;refine Kd.R_append Kd.string (w0:=w) w.heap.size rfl (.tmp 53) (.tmp 55) 55 9 (.string ⟨#[]⟩) 16 rfl Tryz.underlying55 info9 rfl (by decide) (by omega) (.slice dg av.length dh) av bm [.string bm] (fun _=>True) (fun _=>False) rfl rfl ?aP (fun _ hk=>hk.elim) ?aF ?aO ?aB ?aS ?aL ?_;(case aP=>exact rfl);(case aB=>exact th_);(case aF=>exact (fun _ _=>trivial));(case aO=>exact (raR_ a8));(case aS=>exact (below_size th_));(case aL=>have:=d3.out;omega);intro v564 ee ho hb hg hat;rw [← d5.out] at ho;have z_:=p_ (blk_grown (g:=aa) (o:=.cells #[.int .i64 ab,.int .i64 ac,.int .i64 ae,.string af,.slice an l0_4.length ai,.slice ao a6.length aj] 62 (0,0)) (kb_ a5) hg (Kd.R_ne a8.out a5.out (by decide))) <| p_ (hb) <| a_ (ho);clear a5 HB a8;obtain ⟨a5,HB,d6⟩:=z_;clear ho hb hg hat))
 go_roundg k3
 case measure=>have:=HK1.out;have:=da.out;have:=HK3.out;omega
 case rel=>exact ⟨(d4),H',⟨(by have:=HK1.out;have:=da.out;have:=HK3.out;omega)⟩,⟨(raR_ d6)⟩,⟨(kb_ a5)⟩,⟨th_⟩⟩

mutual
def impl_ReadInode.j0:Nat→List ByteArray→Bool→Option (Int × Int × Int × ByteArray × (List (S86)) × (List (S90)) × Bool)
 | 0,_,_=>none
 | k+1,x0,a8=>if a8=true then (some (0,0,0,(⟨#[]⟩:ByteArray),([]:List (S86)),([]:List (S90)),false)) else (if 0 < (x0.length:Int) then ((impl_NumAt.f k (rdOf ByteArray.empty x0 0) 0 1).bind fun a5=>((impl_NumAt.f k (rdOf ByteArray.empty x0 0) 1 2).bind fun a6=>((impl_NumAt.f k (rdOf ByteArray.empty x0 0) 3 2).bind fun a7=>(if a5.1=1 then (if 1 < (x0.length:Int) then (impl_ReadInode.j1 k x0 a5.1 a6.1 a7.1 (rdOf ByteArray.empty x0 1)) else (none)) else (impl_ReadInode.j1 k x0 a5.1 a6.1 a7.1 (⟨#[]⟩:ByteArray)))))) else (none))
def impl_ReadInode.j1:Nat→List ByteArray→Int→Int→Int→ByteArray→Option (Int × Int × Int × ByteArray × (List (S86)) × (List (S90)) × Bool)
 | 0,_,_,_,_,_=>none
 | k+1,x0,a5,a6,a7,a8=>if 2≤(x0.length:Int) then (impl_ReadInode.l0 k x0 (x0.drop 2) ((x0.drop 2).length:Int) 0 a5 a6 a7 a8 ([]:List (S86)) ([]:List (S90))) else (none)
def impl_ReadInode.j4:Nat→List ByteArray→Int→Int→Int→ByteArray→List (S86)→List (S90)→Option (Int × Int × Int × ByteArray × (List (S86)) × (List (S90)) × Bool)
 | 0,_,_,_,_,_,_,_=>none
 | k+1,x0,a5,a6,a7,a8,a9,aa=>(impl_InodeOk.f k a5 a6 a7 a8 a9 aa).bind fun ab=>(if ab=true then ((impl_inodeText.f k a5 a6 a7 a8 a9 aa).bind fun ac=>((slices_Equal_string.f k ac x0).bind fun ae=>(if ae=true then (some (a5,a6,a7,a8,a9,aa,true)) else (some (0,0,0,(⟨#[]⟩:ByteArray),([]:List (S86)),([]:List (S90)),false))))) else (some (0,0,0,(⟨#[]⟩:ByteArray),([]:List (S86)),([]:List (S90)),false)))
def impl_ReadInode.l0:Nat→List ByteArray→List ByteArray→Int→Int→Int→Int→Int→ByteArray→List (S86)→List (S90)→Option (Int × Int × Int × ByteArray × (List (S86)) × (List (S90)) × Bool)
 | 0,_,_,_,_,_,_,_,_,_,_=>none
 | k+1,x0,af,ag,ae,a5,a6,a7,a8,a9,aa=>if ae < ag then (if 0≤ae then (if ae < (af.length:Int) then ((impl_zeroWord.f).bind fun ah=>(if (rdOf ByteArray.empty af ae).toList=ah.toList then (impl_ReadInode.j4 k x0 a5 a6 a7 a8 a9 aa) else ((impl_ReadRec.f k (rdOf ByteArray.empty af ae)).bind fun ab=>((impl_ReadEntry.f k (rdOf ByteArray.empty af ae)).bind fun ac=>(if a5=1 then (impl_ReadInode.j3 k x0 ac.2.2 af ag ae ab.2.2.2 a5 a6 a7 a8 a9 aa ab.1 ab.2.1 ab.2.2.1 ac.1 ac.2.1) else (impl_ReadInode.j3 k x0 ac.2.2 af ag ae false a5 a6 a7 a8 a9 aa ab.1 ab.2.1 ab.2.2.1 ac.1 ac.2.1)))))) else (none)) else (none)) else (impl_ReadInode.j4 k x0 a5 a6 a7 a8 a9 aa)
def impl_ReadInode.j3:Nat→List ByteArray→Bool→List ByteArray→Int→Int→Bool→Int→Int→Int→ByteArray→List (S86)→List (S90)→Int→Int→ByteArray→Int→ByteArray→Option (Int × Int × Int × ByteArray × (List (S86)) × (List (S90)) × Bool)
 | 0,_,_,_,_,_,_,_,_,_,_,_,_,_,_,_,_,_=>none
 | k+1,x0,ak,ah,ai,aj,al,a5,a8,a9,aa,a6,a7,ab,ac,ae,af,ag=>if al=true then (if a6.length < 4398046511104 then (impl_ReadInode.l0 k x0 ah ai (wrap64 (aj+1)) a5 a8 a9 aa (a6++[(⟨ab,ac,ae⟩:S86)]) a7) else (none)) else (if a5=2 then (if ak=true then (if a7.length < 5864062014805 then (impl_ReadInode.l0 k x0 ah ai (wrap64 (aj+1)) a5 a8 a9 aa a6 (a7++[(⟨af,ag⟩:S90)])) else (none)) else (some (0,0,0,(⟨#[]⟩:ByteArray),([]:List (S86)),([]:List (S90)),false))) else (some (0,0,0,(⟨#[]⟩:ByteArray),([]:List (S86)),([]:List (S90)),false)))
end
def impl_ReadInode.f (k:Nat) (l0:List ByteArray):Option (Int × Int × Int × ByteArray × (List (S86)) × (List (S90)) × Bool):=if (l0.length:Int)=8 then ((slices_ContainsFunc_string.f k l0 ()).bind fun a5=>(impl_ReadInode.j0 k l0 a5)) else (impl_ReadInode.j0 k l0 true)
theorem impl_ReadInode.calls (k:Nat) (A0:Option Addr) (c0:Nat) (l0:List ByteArray) (r1:Int) (r2:Int) (r3:Int) (r4:ByteArray) (r5:List (S86)) (r6:List (S90)) (r7:Bool) (w:World) (hr0:Kd.C Kd.string w A0 l0.length l0) (hc0:l0.length≤c0) (h:impl_ReadInode.f k l0=some (r1,r2,r3,r4,r5,r6,r7)) :
  Calls Tryz.prog 64 #[.slice A0 l0.length c0] w fun e w'=>∃ v4_ v5_:Value,e=.returned (.tuple #[.agg #[.int .i64 r1,.int .i64 r2,.int .i64 r3,.string r4,v4_,v5_],.bool r7])∧Kd.R k86 86 w' w.heap.size (fun _=>True) v4_ r5∧Kd.R k90 90 w' w.heap.size (fun _=>True) v5_ r6∧Below w.heap.size w w':=by
 have hu62:=Tryz.underlying62
 have hu86:=Tryz.underlying86
 have hu90:=Tryz.underlying90
 have HR0:=m_ hr0
 have gf:=m_ hc0
 clear hr0 hc0
 have HB:=m_ (Below.refl w.heap.size w)
 unfold impl_ReadInode.f at h
 have H:=h
 clear h
 have gm:=m_ H
 clear H
 go_enter Tryz.func64,Tryz.ntmps64
 go_upto_region 1 with (first|((with_reducible refine gate_dst (N:=2) rfl ?_);refine be_ 2 (cs:=#[.int .i64 0,.int .i64 0,.int .i64 0,.string (⟨#[]⟩:ByteArray),.slice none 0 0,.slice none 0 0]) 62 ?_;intro ap hg w3 hbox hb;have z_:=bx0_ th_ hb hbox hg;clear HB;obtain ⟨HB,a6,i2,i3⟩:=z_;clear hb hbox hg))
 (try simp only [Act.put,List.setIfInBounds_toArray,List.set_cons_zero,List.set_cons_succ])
 go_cut [17] (fun v17 wc=>∃ (kq:Nat) (br:Bool),v17=.bool br∧Aside0 (impl_ReadInode.j0 kq l0 br=some (r1,r2,r3,r4,r5,r6,r7))∧Aside0 (kq≤k)∧Aside0 (wc.heap[ap]?=some (.cells #[.int .i64 0,.int .i64 0,.int .i64 0,.string (⟨#[]⟩:ByteArray),(.slice none 0 0),(.slice none 0 0)] 62 (0,0)))∧Aside0 (Below w.heap.size w wc))
 case first =>
  have H:=gm.out
  clear gm
  by_cases c4:(l0.length:Int)=8
  rotate_left
  ·rw [if_neg c4] at H
   have b4:=qc_ c4
   have d5:=qd_ c4
   (first|rw [b4]|(simp only [i64_w,i32_w];rw [b4])|skip)
   have H':=m_ H
   clear H
   go_wp2
   go_meet
   case rel=>exact ⟨_,(true),tq_3,H',⟨tq_12⟩,⟨(kb_ a6)⟩,⟨th_⟩⟩
  rw [if_pos c4] at H
  have b4:=qa_ c4
  have d5:=qb_ c4
  clear c4
  (first|rw [b4]|(simp only [i64_w,i32_w];rw [b4])|skip)
  obtain ⟨en,A5,H⟩:=bd_ H
  have H':=m_ H
  clear H
  go_wp2_with (first|(go_at_call 86;(with_reducible refine (slices_ContainsFunc_string.calls k _ _ l0 () en _ ?side1 ?side2 A5.out).mono ?_);(case side1=>exact tq_11);(case side2=>exact gf.out);rintro e w6 ⟨rfl,hb⟩;have z_:=bw1_ (kb_ a6) th_ hb;clear a6 HB;obtain ⟨a6,HB⟩:=z_;(try clear hb)))
  go_meet
  case rel=>exact ⟨_,(en),tq_3,H',⟨tq_12⟩,⟨(kb_ a6)⟩,⟨th_⟩⟩
 case rest =>
 clear gm
 try clear p2;try clear c4;try clear b4;try clear d5;try clear c6
 obtain ⟨kq,br,rfl,HA,HJ1,a6,HB⟩:=hcut
 cases kq with
 | zero=>exact absurd HA.out (by simp [impl_ReadInode.j0])
 | succ kj1 =>
 have H:=HA.out
 clear HA
 simp only [impl_ReadInode.j0] at H
 by_cases c7:br=true
 ·subst c7
  rw [if_pos rfl] at H
  simp only [Option.some.injEq,Prod.mk.injEq] at H
  obtain ⟨rfl,rfl,rfl,rfl,rfl,rfl,rfl⟩:=H
  have e2:=bb6_ a6.out
  go_wp2
  refine bodyPost_ret (results_ct rfl _ _ ap 62 #[.int .i64 0,.int .i64 0,.int .i64 0,.string (⟨#[]⟩:ByteArray),.slice none 0 0,.slice none 0 0] (0,0) _ rfl tb_ Tryz.underlying62 rfl kr_) rfl ?_
  exact ⟨_,_,tq_1,tq_5,tq_5,th_⟩
 replace c7:=Bool.eq_false_iff.mpr c7
 subst c7
 rw [if_neg nf_] at H
 obtain ⟨c9,H⟩:=fc_ H
 have du:=de_ c9
 have dv:decide (0 < l0.length)=true:=de_ (by omega)
 clear c9
 obtain ⟨⟨ak,gn⟩,iu,H⟩:=bd_ H
 try dsimp -simprocs only at H
 obtain ⟨⟨an,go⟩,iv,H⟩:=bd_ H
 try dsimp -simprocs only at H
 obtain ⟨⟨ao,gp⟩,iw,H⟩:=bd_ H
 try dsimp -simprocs only at H
 have ec:=m_ H
 clear H
 go_upto_if 46 with (first|((with_reducible refine gate_dst (N:=4) rfl ?_);refine be_ 4 (cs:=#[.int .i64 0,.int .i64 0,.int .i64 0,.string (⟨#[]⟩:ByteArray),.slice none 0 0,.slice none 0 0]) 62 ?_;intro a7 hg jj hbox hb;have z_:=bx1_ (kb_ a6) th_ hb hbox hg;clear a6 HB;obtain ⟨a6,HB,a5,ac,i4,d6,d7⟩:=z_;clear hb hbox hg;obtain ⟨eo,ep⟩:=an2_ d7 d6;have be:=bb6_ a5.out;have bi:0≤(0:Int):=(by omega);have bj:0 < (l0.length:Int):=od_ tq_2;obtain ⟨ab,gq,hx569_0⟩:=Kd.at_string HR0.out 0 bi bj;cases gq;have i5:(0 < l0.length)=True:=eq_true (by omega);(try rw [show ((0:Int)).toNat=0 from rfl] at hx569_0);(try rw [Addr.add_zero'] at hx569_0);have bs:ab.block≠a7:=Nat.ne_of_lt (Nat.lt_of_lt_of_le tq_48 ac.out);have bu:ab.block≠a7:=Nat.ne_of_lt (Nat.lt_of_lt_of_le tq_48 ac.out);have bv:ab.block≠a7:=Nat.ne_of_lt (Nat.lt_of_lt_of_le tq_48 ac.out);have bw:ab.block≠a7:=Nat.ne_of_lt (Nat.lt_of_lt_of_le tq_48 ac.out);have bx:ab.block≠a7:=Nat.ne_of_lt (Nat.lt_of_lt_of_le tq_48 ac.out);have bz:ab.block≠a7:=Nat.ne_of_lt (Nat.lt_of_lt_of_le tq_48 ac.out);replace hx569_0:=hx_ HB.out hx569_0;replace hx569_0:=(cell_far (p:=⟨a7,0,none⟩) (ab_ bs) (.int .i64 0)).trans hx569_0;replace hx569_0:=(cell_far (p:=⟨a7,1,none⟩) (ab_ bu) (.int .i64 0)).trans hx569_0;replace hx569_0:=(cell_far (p:=⟨a7,2,none⟩) (ab_ bv) (.int .i64 0)).trans hx569_0;replace hx569_0:=(cell_far (p:=⟨a7,3,none⟩) (ab_ bw) (.string (⟨#[]⟩:ByteArray))).trans hx569_0;replace hx569_0:=(cell_far (p:=⟨a7,4,none⟩) (ab_ bx) (.slice none 0 0)).trans hx569_0;replace hx569_0:=(cell_far (p:=⟨a7,5,none⟩) (ab_ bz) (.slice none 0 0)).trans hx569_0;clear bs bu bv bw bx bz;replace bi:=eq_true bi;replace bj:=eq_true bj)|((with_reducible refine gate_callee (f:=80) rfl ?_);refine goesL_ (some 24) rfl rfl Tryz.func80 kr_ rfl #[.string (rdOf ByteArray.empty l0 0),.int .i64 0,.int .i64 1] rfl tq_0 ?_;(with_reducible refine (impl_NumAt.calls kj1 (rdOf ByteArray.empty l0 0) 0 1 ak gn _ iu.out).mono ?_);rintro e w' ⟨rfl,⟨nd,rfl⟩⟩;refine ⟨_,rfl,?_⟩;have bl:0≤(0:Int):=(by omega);have bm:0 < (l0.length:Int):=od_ tq_2;obtain ⟨eq,gr,hx572_0⟩:=Kd.at_string HR0.out 0 bl bm;obtain rfl:ab=eq:=(by injection gr);have i6:(0 < l0.length)=True:=eq_true (by omega);(try rw [show ((0:Int)).toNat=0 from rfl] at hx572_0);(try rw [Addr.add_zero'] at hx572_0);have ca:ab.block≠a7:=Nat.ne_of_lt (Nat.lt_of_lt_of_le tq_40 ac.out);have cb:ab.block≠a7:=Nat.ne_of_lt (Nat.lt_of_lt_of_le tq_40 ac.out);have cc:ab.block≠a7:=Nat.ne_of_lt (Nat.lt_of_lt_of_le tq_40 ac.out);have cd:ab.block≠a7:=Nat.ne_of_lt (Nat.lt_of_lt_of_le tq_40 ac.out);have ce:ab.block≠a7:=Nat.ne_of_lt (Nat.lt_of_lt_of_le tq_40 ac.out);have cf:ab.block≠a7:=Nat.ne_of_lt (Nat.lt_of_lt_of_le tq_40 ac.out);have cg:ab.block≠a7:=Nat.ne_of_lt (Nat.lt_of_lt_of_le tq_40 ac.out);replace hx572_0:=hx_ HB.out hx572_0;replace hx572_0:=(cell_far (p:=⟨a7,0,none⟩) (ab_ ca) (.int .i64 0)).trans hx572_0;replace hx572_0:=(cell_far (p:=⟨a7,1,none⟩) (ab_ cb) (.int .i64 0)).trans hx572_0;replace hx572_0:=(cell_far (p:=⟨a7,2,none⟩) (ab_ cc) (.int .i64 0)).trans hx572_0;replace hx572_0:=(cell_far (p:=⟨a7,3,none⟩) (ab_ cd) (.string (⟨#[]⟩:ByteArray))).trans hx572_0;replace hx572_0:=(cell_far (p:=⟨a7,4,none⟩) (ab_ ce) (.slice none 0 0)).trans hx572_0;replace hx572_0:=(cell_far (p:=⟨a7,5,none⟩) (ab_ cf) (.slice none 0 0)).trans hx572_0;replace hx572_0:=(cell_far (p:=⟨a7,0,none⟩) (ab_ cg) (.int .i64 ak)).trans hx572_0;clear ca cb cc cd ce cf cg;replace bl:=eq_true bl;replace bm:=eq_true bm)|((with_reducible refine gate_callee (f:=80) rfl ?_);refine goesL_ (some 32) rfl rfl Tryz.func80 kr_ rfl #[.string (rdOf ByteArray.empty l0 0),.int .i64 1,.int .i64 2] rfl tq_0 ?_;(with_reducible refine (impl_NumAt.calls kj1 (rdOf ByteArray.empty l0 0) 1 2 an go _ iv.out).mono ?_);rintro e w' ⟨rfl,⟨nd,rfl⟩⟩;refine ⟨_,rfl,?_⟩;have bn:0≤(0:Int):=(by omega);have bo:0 < (l0.length:Int):=od_ tq_2;obtain ⟨er,gs,hx575_0⟩:=Kd.at_string HR0.out 0 bn bo;obtain rfl:ab=er:=(by injection gs);have i7:(0 < l0.length)=True:=eq_true (by omega);(try rw [show ((0:Int)).toNat=0 from rfl] at hx575_0);(try rw [Addr.add_zero'] at hx575_0);have ch:ab.block≠a7:=Nat.ne_of_lt (Nat.lt_of_lt_of_le tq_21 ac.out);have ci:ab.block≠a7:=Nat.ne_of_lt (Nat.lt_of_lt_of_le tq_21 ac.out);have cj:ab.block≠a7:=Nat.ne_of_lt (Nat.lt_of_lt_of_le tq_21 ac.out);have ck:ab.block≠a7:=Nat.ne_of_lt (Nat.lt_of_lt_of_le tq_21 ac.out);have cl:ab.block≠a7:=Nat.ne_of_lt (Nat.lt_of_lt_of_le tq_21 ac.out);have cm:ab.block≠a7:=Nat.ne_of_lt (Nat.lt_of_lt_of_le tq_21 ac.out);have cn:ab.block≠a7:=Nat.ne_of_lt (Nat.lt_of_lt_of_le tq_21 ac.out);have co:ab.block≠a7:=Nat.ne_of_lt (Nat.lt_of_lt_of_le tq_21 ac.out);replace hx575_0:=hx_ HB.out hx575_0;replace hx575_0:=(cell_far (p:=⟨a7,0,none⟩) (ab_ ch) (.int .i64 0)).trans hx575_0;replace hx575_0:=(cell_far (p:=⟨a7,1,none⟩) (ab_ ci) (.int .i64 0)).trans hx575_0;replace hx575_0:=(cell_far (p:=⟨a7,2,none⟩) (ab_ cj) (.int .i64 0)).trans hx575_0;replace hx575_0:=(cell_far (p:=⟨a7,3,none⟩) (ab_ ck) (.string (⟨#[]⟩:ByteArray))).trans hx575_0;replace hx575_0:=(cell_far (p:=⟨a7,4,none⟩) (ab_ cl) (.slice none 0 0)).trans hx575_0;replace hx575_0:=(cell_far (p:=⟨a7,5,none⟩) (ab_ cm) (.slice none 0 0)).trans hx575_0;replace hx575_0:=(cell_far (p:=⟨a7,0,none⟩) (ab_ cn) (.int .i64 ak)).trans hx575_0;replace hx575_0:=(cell_far (p:=⟨a7,1,none⟩) (ab_ co) (.int .i64 an)).trans hx575_0;clear ch ci cj ck cl cm cn co;replace bn:=eq_true bn;replace bo:=eq_true bo)|((with_reducible refine gate_callee (f:=80) rfl ?_);refine goesL_ (some 40) rfl rfl Tryz.func80 kr_ rfl #[.string (rdOf ByteArray.empty l0 0),.int .i64 3,.int .i64 2] rfl tq_0 ?_;(with_reducible refine (impl_NumAt.calls kj1 (rdOf ByteArray.empty l0 0) 3 2 ao gp _ iw.out).mono ?_);rintro e w' ⟨rfl,⟨nd,rfl⟩⟩;refine ⟨_,rfl,?_⟩))
 (try simp only [Act.put,List.setIfInBounds_toArray,List.set_cons_zero,List.set_cons_succ])
 go_cut [] (fun wc=>∃ (kq:Nat) (a8:ByteArray),Aside0 (impl_ReadInode.j1 kq l0 ak an ao a8=some (r1,r2,r3,r4,r5,r6,r7))∧Aside0 (kq≤kj1)∧Aside0 (wc.heap[ap]?=some (.cells #[.int .i64 0,.int .i64 0,.int .i64 0,.string (⟨#[]⟩:ByteArray),(.slice none 0 0),(.slice none 0 0)] 62 (0,0)))∧Aside0 (wc.heap[a7]?=some (.cells #[.int .i64 ak,.int .i64 an,.int .i64 ao,.string a8,(.slice none 0 0),(.slice none 0 0)] 62 (0,0)))∧Aside0 (Below w.heap.size w wc))
 case first =>
  have H:=ec.out
  clear ec
  by_cases dg:ak=1
  rotate_left
  ·rw [if_neg dg] at H
   have ax:=qc_ dg
   have bf:=qd_ dg
   (first|rw [ax]|(simp only [i64_w,i32_w];rw [ax])|skip)
   have H':=m_ H
   clear H
   go_wp2
   go_meet
   case rel=>exact ⟨_,((⟨#[]⟩:ByteArray)),H',⟨(by have:=HJ1.out;first|omega|exact Nat.le_refl _)⟩,⟨tb_⟩,⟨tb_⟩,⟨th_⟩⟩
  rw [if_pos dg] at H
  have ax:=qa_ dg
  have bf:=qb_ dg
  clear dg
  (first|rw [ax]|(simp only [i64_w,i32_w];rw [ax])|skip)
  obtain ⟨el,H⟩:=fc_ H
  have cp:=de_ el
  have cq:decide (1 < l0.length)=true:=de_ (by omega)
  clear el
  have H':=m_ H
  clear H
  have bp:0≤(1:Int):=(by omega)
  have bq:1 < (l0.length:Int):=od_ tq_2
  obtain ⟨es,gt,hx578_0⟩:=Kd.at_string HR0.out 1 bp bq
  obtain rfl:ab=es:=(by injection gt)
  (try simp only [show (1:Int).toNat=1 from rfl,Nat.reduceMul,Nat.reduceEqDiff,Go.Addr.add,↓reduceIte] at hx578_0)
  have i8:(1 < l0.length)=True:=eq_true (by omega)
  (try rw [show ((1:Int)).toNat=1 from rfl] at hx578_0)
  have cr:ab.block≠a7:=Nat.ne_of_lt (Nat.lt_of_lt_of_le tq_16 ac.out)
  have ct:ab.block≠a7:=Nat.ne_of_lt (Nat.lt_of_lt_of_le tq_16 ac.out)
  have cu:ab.block≠a7:=Nat.ne_of_lt (Nat.lt_of_lt_of_le tq_16 ac.out)
  have cv:ab.block≠a7:=Nat.ne_of_lt (Nat.lt_of_lt_of_le tq_16 ac.out)
  have cw:ab.block≠a7:=Nat.ne_of_lt (Nat.lt_of_lt_of_le tq_16 ac.out)
  have cx:ab.block≠a7:=Nat.ne_of_lt (Nat.lt_of_lt_of_le tq_16 ac.out)
  have cy:ab.block≠a7:=Nat.ne_of_lt (Nat.lt_of_lt_of_le tq_16 ac.out)
  have cz:ab.block≠a7:=Nat.ne_of_lt (Nat.lt_of_lt_of_le tq_16 ac.out)
  have d0:ab.block≠a7:=Nat.ne_of_lt (Nat.lt_of_lt_of_le tq_16 ac.out)
  replace hx578_0:=hx_ HB.out hx578_0
  replace hx578_0:=(cell_far (p:=⟨a7,0,none⟩) (ab_ cr) (.int .i64 0)).trans hx578_0
  replace hx578_0:=(cell_far (p:=⟨a7,1,none⟩) (ab_ ct) (.int .i64 0)).trans hx578_0
  replace hx578_0:=(cell_far (p:=⟨a7,2,none⟩) (ab_ cu) (.int .i64 0)).trans hx578_0
  replace hx578_0:=(cell_far (p:=⟨a7,3,none⟩) (ab_ cv) (.string (⟨#[]⟩:ByteArray))).trans hx578_0
  replace hx578_0:=(cell_far (p:=⟨a7,4,none⟩) (ab_ cw) (.slice none 0 0)).trans hx578_0
  replace hx578_0:=(cell_far (p:=⟨a7,5,none⟩) (ab_ cx) (.slice none 0 0)).trans hx578_0
  replace hx578_0:=(cell_far (p:=⟨a7,0,none⟩) (ab_ cy) (.int .i64 ak)).trans hx578_0
  replace hx578_0:=(cell_far (p:=⟨a7,1,none⟩) (ab_ cz) (.int .i64 an)).trans hx578_0
  replace hx578_0:=(cell_far (p:=⟨a7,2,none⟩) (ab_ d0) (.int .i64 ao)).trans hx578_0
  clear cr ct cu cv cw cx cy cz d0
  replace bp:=eq_true bp
  replace bq:=eq_true bq
  have bg:=bb6_ a5.out
  go_wp2
  go_meet
  case rel=>exact ⟨_,(rdOf ByteArray.empty l0 1),H',⟨(by have:=HJ1.out;first|omega|exact Nat.le_refl _)⟩,⟨tb_⟩,⟨tb_⟩,⟨th_⟩⟩
 case rest =>
 clear ec
 try clear c1;try clear p2;try clear c4;try clear b4;try clear d5;try clear p5;try clear q5;try clear hx5;try clear gu;try clear c6;try clear c7;try clear c8;try clear c9;try clear du;try clear dv;try clear gv;try clear dg;try clear ax;try clear bf;try clear el;try clear cp;try clear cq;try clear gw;try clear be;try clear bg;try clear e2;try clear be;try clear bg;try clear e2;try clear hx569_0;try clear hx572_0;try clear hx575_0;try clear hx578_0;try clear p2;try clear bi;try clear bl;try clear bn;try clear bp;try clear bj;try clear bm;try clear bo;try clear bq
 obtain ⟨kq,a8,HA,HJ12,a6,a5,HB⟩:=hcut
 cases kq with
 | zero=>exact absurd HA.out (by simp [impl_ReadInode.j1])
 | succ kj12 =>
 have H:=HA.out
 clear HA
 simp only [impl_ReadInode.j1] at H
 obtain ⟨em,H⟩:=fc_ H
 have dh:=eq_true em
 have di:=de_ em
 clear em
 obtain ⟨yd23,hyd23⟩:∃ y_:List ByteArray,y_=(l0.drop 2):=⟨_,rfl⟩
 rw [← hyd23] at H
 have ed:=m_ H
 clear H
 obtain ⟨i023,hi023,_,hsz23,_⟩:=info_parts info9
 obtain ⟨jk,hcut23,hA23,hC23⟩:=print_drop_of (P:=Tryz.prog) Value.string (⟨#[]⟩:ByteArray) 55 9 .i64 Tryz.underlying55 hi023 hsz23 (some ab) c0 l0 2 (by omega) (od_ tq_2) gf.out
 have eyd23:List.drop (Int.toNat 2) l0=yd23:=hyd23.symm
 rw [eyd23] at hcut23 hA23 hC23
 have e3:=m_ (Kd.C_of_reads (h1:=fun _=>rfl) (hA23 _ (Kd.reads_of_C HR0.out)))
 have i9:=m_ hC23
 clear hA23 hC23 hi023 hsz23 hyd23 eyd23
 go_upto_block 0 with (fail)
 go_cut [] (fun wc=>∃ (kq:Nat) (aq:Int) (ar:Int) (au:Int) (av:ByteArray) (a9:List (S86)) (aa:List (S90)) (u569004:Value) (u569005:Value),Aside0 (impl_ReadInode.j4 kq l0 ak an ao a8 a9 aa=some (r1,r2,r3,r4,r5,r6,r7))∧Aside0 (kq≤kj12)∧Aside0 (Kd.R k86 86 wc w.heap.size (fun _=>True) u569004 a9)∧Aside0 (Kd.R k90 90 wc w.heap.size (fun _=>True) u569005 aa)∧Aside0 (wc.heap[ap]?=some (.cells #[.int .i64 aq,.int .i64 ar,.int .i64 au,.string av,(.slice none 0 0),(.slice none 0 0)] 62 (0,0)))∧Aside0 (wc.heap[a7]?=some (.cells #[.int .i64 ak,.int .i64 an,.int .i64 ao,.string a8,u569004,u569005] 62 (0,0)))∧Aside0 (Below w.heap.size w wc))
 case first =>
  have H:=ed.out
  clear ed
  have H':=m_ H
  clear H
  go_wp2
  go_loopg [54] kj12 (fun kq v54 w'=>∃ (al:Int) (ag:Int) (ah:Int) (ai:Int) (aj:ByteArray) (ae:List (S86)) (af:List (S90)) (u569004:Value) (u569005:Value),v54=.int .i64 al∧Aside0 (impl_ReadInode.l0 kq l0 yd23 (yd23.length:Int) al ak an ao a8 ae af=some (r1,r2,r3,r4,r5,r6,r7))∧Aside0 (kq≤kj12)∧Aside0 (Kd.R k86 86 w' w.heap.size (fun _=>True) u569004 ae)∧Aside0 (Kd.R k90 90 w' w.heap.size (fun _=>True) u569005 af)∧Aside0 (w'.heap[ap]?=some (.cells #[.int .i64 ag,.int .i64 ah,.int .i64 ai,.string aj,(.slice none 0 0),(.slice none 0 0)] 62 (0,0)))∧Aside0 (w'.heap[a7]?=some (.cells #[.int .i64 ak,.int .i64 an,.int .i64 ao,.string a8,u569004,u569005] 62 (0,0)))∧Aside0 (Below w.heap.size w w'))
  case atStart=>exact ⟨(0),(0),(0),(0),((⟨#[]⟩:ByteArray)),(([]:List (S86))),(([]:List (S90))),(.slice none 0 0),(.slice none 0 0),tq_3,H',⟨Nat.le_refl _⟩,⟨tq_5⟩,⟨tq_5⟩,⟨(kb_ a6)⟩,⟨(kb_ a5)⟩,⟨th_⟩⟩
  case round =>
  clear H'
  try clear c1;try clear c2;try clear p2;try clear c4;try clear b4;try clear d5;try clear p5;try clear q5;try clear hx5;try clear gu;try clear c6;try clear c7;try clear c8;try clear c9;try clear du;try clear dv;try clear gv;try clear dg;try clear ax;try clear bf;try clear el;try clear cp;try clear cq;try clear gw;try clear em;try clear dh;try clear di;try clear be;try clear bg;try clear e2;try clear be;try clear bg;try clear e2;try clear hx569_0;try clear hx572_0;try clear hx575_0;try clear hx578_0;try clear p2;try clear p5;try clear bi;try clear bl;try clear bn;try clear bp;try clear q5;try clear bj;try clear bm;try clear bo;try clear bq
  obtain ⟨al,ag,ah,ai,aj,ae,af,u569004,u569005,rfl,HA,HK3,HO_569004,HO_569005,a6,a5,HB⟩:=hrel
  cases gk with
  | zero=>exact absurd HA.out (by simp [impl_ReadInode.l0])
  | succ k3 =>
  have H:=HA.out
  clear HA
  simp only [impl_ReadInode.l0] at H
  by_cases e4:al < (yd23.length:Int)
  rotate_left
  ·rw [if_neg e4] at H
   have az:=df_ e4
   clear e4
   (first|rw [az]|(simp only [i64_w,i32_w];rw [az])|skip)
   have H':=m_ H
   clear H
   go_wp2
   go_meet
   case rel=>exact ⟨_,(ag),(ah),(ai),(aj),(ae),(af),(u569004),(u569005),H',⟨tq_73⟩,⟨(raR_ HO_569004)⟩,⟨(raR_ HO_569005)⟩,⟨(kb_ a6)⟩,⟨(kb_ a5)⟩,⟨th_⟩⟩
  rw [if_pos e4] at H
  have az:=de_ e4
  clear e4
  (first|rw [az]|(simp only [i64_w,i32_w];rw [az])|skip)
  obtain ⟨gh,H⟩:=fc_ H
  have e5:=de_ gh
  clear gh
  obtain ⟨gi,H⟩:=fc_ H
  have e6:=de_ gi
  clear gi
  obtain ⟨ee,ia,H⟩:=bd_ H
  by_cases dw:(rdOf ByteArray.empty yd23 al).toList=ee.toList
  ·rw [if_pos dw] at H
   have dj:=qa_ dw
   have dk:=qb_ dw
   clear dw
   have H':=m_ H
   clear H
   have b9:0≤(al:Int):=od_ tq_2
   have ba:al < (yd23.length:Int):=od_ tq_2
   obtain ⟨et,ef,aw⟩:=Kd.at_string e3.out al b9 ba
   cases ef
   replace aw:=hx_ HB.out aw
   replace b9:=eq_true b9
   replace ba:=eq_true ba
   go_wp2_with (first|((with_reducible refine gate_callee (f:=88) rfl ?_);refine goesL_ (some 59) rfl rfl Tryz.func88 kr_ rfl #[] rfl tq_0 ?_;(with_reducible refine (impl_zeroWord.calls  ee _ ia.out).mono ?_);rintro e jl ⟨rfl,hb⟩;refine ⟨_,rfl,?_⟩;have z_:=p_ (Kd.R_below (raR_ HO_569004) hb) <| p_ (Kd.R_below (raR_ HO_569005) hb) <| bw2_ (kb_ a6) (kb_ a5) th_ hb;clear HO_569004 HO_569005 a6 a5 HB;obtain ⟨HO_569004,HO_569005,a6,a5,HB⟩:=z_;(try clear hb)))
   go_meet
   case rel=>exact ⟨_,(ag),(ah),(ai),(aj),(ae),(af),(u569004),(u569005),H',⟨tq_73⟩,⟨(raR_ HO_569004)⟩,⟨(raR_ HO_569005)⟩,⟨(kb_ a6)⟩,⟨(kb_ a5)⟩,⟨th_⟩⟩
  rw [if_neg dw] at H
  have dj:=qc_ dw
  have dk:=qd_ dw
  obtain ⟨⟨b0,b1,b2,eu⟩,ix,H⟩:=bd_ H
  try dsimp -simprocs only at H
  obtain ⟨⟨b5,b6,eh⟩,iy,H⟩:=bd_ H
  try dsimp -simprocs only at H
  have ei:=m_ H
  clear H
  have b9:0≤(al:Int):=od_ tq_2
  have ba:al < (yd23.length:Int):=od_ tq_2
  obtain ⟨et,ef,aw⟩:=Kd.at_string e3.out al b9 ba
  cases ef
  replace aw:=hx_ HB.out aw
  replace b9:=eq_true b9
  replace ba:=eq_true ba
  go_upto_region 16 with (first|((with_reducible refine gate_callee (f:=88) rfl ?_);refine goesL_ (some 59) rfl rfl Tryz.func88 kr_ rfl #[] rfl tq_0 ?_;(with_reducible refine (impl_zeroWord.calls  ee _ ia.out).mono ?_);rintro e jm ⟨rfl,hb⟩;refine ⟨_,rfl,?_⟩;have z_:=p_ (Kd.R_below (raR_ HO_569004) hb) <| p_ (Kd.R_below (raR_ HO_569005) hb) <| bw2_ (kb_ a6) (kb_ a5) th_ hb;clear HO_569004 HO_569005 a6 a5 HB;obtain ⟨HO_569004,HO_569005,a6,a5,HB⟩:=z_;(try clear hb))|((with_reducible refine gate_callee (f:=89) rfl ?_);refine goesL_ (some 63) rfl rfl Tryz.func89 kr_ rfl #[.string (rdOf ByteArray.empty yd23 al)] rfl tq_0 ?_;(with_reducible refine (impl_ReadRec.calls k3 (rdOf ByteArray.empty yd23 al) b0 b1 b2 eu _ ix.out).mono ?_);rintro e jn ⟨rfl,hb⟩;refine ⟨_,rfl,?_⟩;have z_:=p_ (Kd.R_below (raR_ HO_569004) hb) <| p_ (Kd.R_below (raR_ HO_569005) hb) <| bw2_ (kb_ a6) (kb_ a5) th_ hb;clear HO_569004 HO_569005 a6 a5 HB;obtain ⟨HO_569004,HO_569005,a6,a5,HB⟩:=z_;(try clear hb))|((with_reducible refine gate_dst (N:=7) rfl ?_);refine be_ 7 (cs:=#[.int .i64 0,.int .i64 0,.string (⟨#[]⟩:ByteArray)]) 86 ?_;intro ay hg jo hbox hb;have z_:=p_ (Kd.R_below (Kd.R_elderB (raR_ HO_569004) ay (Nat.le_of_eq hg.symm)) hb) <| p_ (Kd.R_below (raR_ HO_569005) hb) <| bx2_ (kb_ a6) (kb_ a5) th_ hb hbox hg;clear HO_569004 HO_569005 a6 a5 HB;obtain ⟨HO_569004,HO_569005,a6,a5,HB,am,ib,ic,b7,d8,b8,d9⟩:=z_;clear hb hbox hg;obtain ⟨ev,ew,ex,ey⟩:=an4_ d8 b7 d9 b8;have dx:=bb3_ am.out)|((with_reducible refine gate_callee (f:=90) rfl ?_);refine goesL_ (some 68) rfl rfl Tryz.func90 kr_ rfl #[.string (rdOf ByteArray.empty yd23 al)] rfl tq_0 ?_;(with_reducible refine (impl_ReadEntry.calls k3 (rdOf ByteArray.empty yd23 al) b5 b6 eh _ iy.out).mono ?_);rintro e jp ⟨rfl,hb⟩;refine ⟨_,rfl,?_⟩;have z_:=p_ (Kd.R_below (by (with_reducible repeat (first|apply Kd.R_alloc|apply Kd.R_drewN|apply Kd.R_drew));exact (Kd.R_mono (rR_ (rR_ (rR_ (Kd.R_mono HO_569004.out (fun k_ hk=>(⟨hk,hk.2⟩:_∧k_≠ay)))))) (fun _ h_=>h_.1))) hb) <| p_ (Kd.R_below (by (with_reducible repeat (first|apply Kd.R_alloc|apply Kd.R_drewN|apply Kd.R_drew));exact (Kd.R_mono (rR_ (rR_ (rR_ (Kd.R_types HO_569005.out am.out (by decide))))) (fun _ h_=>h_.1))) hb) <| p_ (blk_below (g:=ap) (o:=.cells #[.int .i64 ag,.int .i64 ah,.int .i64 ai,.string aj,.slice none 0 0,.slice none 0 0] 62 (0,0)) (fr_ a6.out b7.out) hb) <| p_ (blk_below (g:=a7) (o:=.cells #[.int .i64 ak,.int .i64 an,.int .i64 ao,.string a8,u569004,u569005] 62 (0,0)) (fr_ a5.out b8.out) hb) <| p_ (blk_below (g:=ay) (o:=.cells #[.int .i64 b0,.int .i64 b1,.string b2] 86 (0,0)) (pt_ am.out) hb) <| a_ (below_step th_ hb);clear HO_569004 HO_569005 a6 a5 am HB;obtain ⟨HO_569004,HO_569005,a6,a5,am,HB⟩:=z_;(try clear hb);(try clear hk))|((with_reducible refine gate_dst (N:=9) rfl ?_);refine be_ 9 (cs:=#[.int .i64 0,.string (⟨#[]⟩:ByteArray)]) 90 ?_;intro gb590 hg jq hbox hb;have z_:=p_ (Kd.R_below (raR_ HO_569004) hb) <| p_ (Kd.R_below (Kd.R_elderB (raR_ HO_569005) gb590 (Nat.le_of_eq hg.symm)) hb) <| bx3_ (kb_ a6) (kb_ a5) (kb_ am) th_ hb hbox hg;clear HO_569004 HO_569005 a6 a5 am HB;obtain ⟨HO_569004,HO_569005,a6,a5,am,HB,BK590,id,ie,da,db,dc,dd,de,df⟩:=z_;clear hb hbox hg;obtain ⟨ez,f7,f8,f9,fa,fb⟩:=an6_ db da dd dc df de;have dy:=bb2_ BK590.out))
  (try simp only [Act.put,List.setIfInBounds_toArray,List.set_cons_zero,List.set_cons_succ])
  go_cut [72] (fun v72 wc=>∃ (kq:Nat) (bb:Bool),v72=.bool bb∧Aside0 (impl_ReadInode.j3 kq l0 eh yd23 (yd23.length:Int) al bb ak an ao a8 ae af b0 b1 b2 b5 b6=some (r1,r2,r3,r4,r5,r6,r7))∧Aside0 (kq≤k3)∧Aside0 (Kd.R k86 86 wc w.heap.size (fun k_=>k_≠ay) u569004 ae)∧Aside0 (Kd.R k90 90 wc w.heap.size (fun k_=>k_≠gb590) u569005 af)∧Aside0 (wc.heap[ap]?=some (.cells #[.int .i64 ag,.int .i64 ah,.int .i64 ai,.string aj,(.slice none 0 0),(.slice none 0 0)] 62 (0,0)))∧Aside0 (wc.heap[a7]?=some (.cells #[.int .i64 ak,.int .i64 an,.int .i64 ao,.string a8,u569004,u569005] 62 (0,0)))∧Aside0 (wc.heap[ay]?=some (.cells #[.int .i64 b0,.int .i64 b1,.string b2] 86 (0,0)))∧Aside0 (wc.heap[gb590]?=some (.cells #[.int .i64 b5,.string b6] 90 (0,0)))∧Aside0 (Below w.heap.size w wc))
  case first =>
   have H:=ei.out
   clear ei
   by_cases dz:ak=1
   rotate_left
   ·rw [if_neg dz] at H
    have b3:=qc_ dz
    have dl:=qd_ dz
    (first|rw [b3]|(simp only [i64_w,i32_w];rw [b3])|skip)
    have H':=m_ H
    clear H
    have e0:=bb6_ a5.out
    go_wp2
    go_meet
    case rel=>exact ⟨_,(false),tq_3,H',⟨tq_73⟩,⟨tq_84⟩,⟨tq_75⟩,⟨tb_⟩,⟨tb_⟩,⟨tb_⟩,⟨tb_⟩,⟨th_⟩⟩
   rw [if_pos dz] at H
   have b3:=qa_ dz
   have dl:=qb_ dz
   clear dz
   (first|rw [b3]|(simp only [i64_w,i32_w];rw [b3])|skip)
   have H':=m_ H
   clear H
   have e1:=bb6_ a5.out
   go_wp2
   go_meet
   case rel=>exact ⟨_,(eu),tq_3,H',⟨tq_73⟩,⟨tq_84⟩,⟨tq_75⟩,⟨tb_⟩,⟨tb_⟩,⟨tb_⟩,⟨tb_⟩,⟨th_⟩⟩
  case rest =>
  clear ei
  try clear c1;try clear c2;try clear p2;try clear c3;try clear c4;try clear b4;try clear d5;try clear c5;try clear p5;try clear q5;try clear hx5;try clear gu;try clear c6;try clear c7;try clear c8;try clear c9;try clear du;try clear dv;try clear gv;try clear dg;try clear ax;try clear bf;try clear el;try clear cp;try clear cq;try clear gw;try clear em;try clear dh;try clear di;try clear e4;try clear az;try clear gh;try clear e5;try clear gi;try clear e6;try clear dw;try clear dj;try clear dk;try clear iz;try clear j5;try clear j6;try clear j7;try clear j8;try clear dz;try clear b3;try clear dl;try clear j9;try clear ja;try clear jb;try clear jc;try clear jd;try clear je;try clear be;try clear bg;try clear dx;try clear dy;try clear e1;try clear e0;try clear e2;try clear be;try clear bg;try clear dx;try clear dy;try clear e1;try clear e0;try clear e2;try clear hx569_0;try clear hx572_0;try clear hx575_0;try clear hx578_0;try clear aw;try clear p2;try clear p5;try clear bi;try clear bl;try clear bn;try clear bp;try clear b9;try clear q5;try clear bj;try clear bm;try clear bo;try clear bq;try clear ba
  obtain ⟨kq,bb,rfl,HA,HJ31,HO_569004,HO_569005,a6,a5,am,BK590,HB⟩:=hcut
  cases kq with
  | zero=>exact absurd HA.out (by simp [impl_ReadInode.j3])
  | succ kj31 =>
  have H:=HA.out
  clear HA
  simp only [impl_ReadInode.j3] at H
  by_cases fc:bb=true
  ·subst fc
   rw [if_pos rfl] at H
   obtain ⟨gx,H⟩:=fc_ H
   have fd:=m_ gx
   clear gx
   obtain ⟨ej,dm⟩:∃ y_:List (S86),y_=(ae++[(⟨b0,b1,b2⟩:S86)]):=⟨_,rfl⟩
   replace H:(impl_ReadInode.l0 kj31 l0 yd23 (yd23.length:Int) (wrap64 (al+1)) ak an ao a8 ej af)=some (r1,r2,r3,r4,r5,r6,r7):=rh_ dm H
   have fe:=m_ dm
   clear dm
   have H':=m_ H
   clear H
   have ff:=bb6_ a5.out
   have fg:=bb3_ am.out
   go_wp2_with (first|((with_reducible refine gate_builtin (b:=.append) (xs:=#[.tmp 80,.tmp 82]) rfl ?_);at_builtin;refine Kd.R_append k86 (w0:=w) w.heap.size rfl (.tmp 80) (.tmp 82) 59 86 (.agg #[(.int .i64 0),(.int .i64 0),(.string ⟨#[]⟩)]) 32 rfl Tryz.underlying59 info86 rfl (by decide) (by omega) u569004 ae (⟨b0,b1,b2⟩:S86) [.int .i64 b0,.int .i64 b1,.string b2] (fun k_=>k_≠ay) (fun _=>False) rfl rfl ?aP (fun _ hk=>hk.elim) ?aF ?aO ?aB ?aS ?aL ?_;(case aP=>exact k86_mkM _ _ _ (⟨b0,b1,b2⟩:S86));(case aB=>exact th_);(case aF=>exact (fun k_ hk=>Kd.freshB (g:=ay) (o:=.cells #[.int .i64 b0,.int .i64 b1,.string b2] 86 (0,0)) (kb_ am) k_ hk));(case aO=>exact (raR_ HO_569004));(case aS=>exact (below_size th_));(case aL=>have:=fd.out;omega);intro v592 jr ho hb hg hat;rw [← fe.out] at ho;have z_:=p_ (Kd.R_over' (raR_ HO_569005) (Kd.R_typed (raR_ HO_569004)) (by decide) hg) <| p_ (blk_grown (g:=ap) (o:=.cells #[.int .i64 ag,.int .i64 ah,.int .i64 ai,.string aj,.slice none 0 0,.slice none 0 0] 62 (0,0)) (kb_ a6) hg (Kd.R_ne HO_569004.out a6.out (by decide))) <| p_ (blk_grown (g:=a7) (o:=.cells #[.int .i64 ak,.int .i64 an,.int .i64 ao,.string a8,u569004,u569005] 62 (0,0)) (kb_ a5) hg (Kd.R_ne HO_569004.out a5.out (by decide))) <| p_ (blk_grown (g:=ay) (o:=.cells #[.int .i64 b0,.int .i64 b1,.string b2] 86 (0,0)) (kb_ am) hg (Kd.R_away HO_569004.out (fun _ hk=>hk))) <| p_ (blk_grown (g:=gb590) (o:=.cells #[.int .i64 b5,.string b6] 90 (0,0)) (kb_ BK590) hg (Kd.R_ne HO_569004.out BK590.out (by decide))) <| p_ (hb) <| a_ (ho);clear HO_569005 a6 a5 am BK590 HB HO_569004;obtain ⟨HO_569005,a6,a5,am,BK590,HB,e7⟩:=z_;clear ho hb hg hat;obtain ⟨gy,gz,h8⟩:=Kd.R_slice e7.out;subst h8;have fh:=bb6_ a5.out))
   go_roundg kj31
   case measure=>have:=HJ1.out;have:=HJ12.out;have:=HK3.out;have:=HJ31.out;omega
   case rel=>exact ⟨(wrap64 (al+1)),(ag),(ah),(ai),(aj),(ej),(af),(.slice gy ej.length gz),(u569005),tq_3,H',⟨(by have:=HJ1.out;have:=HJ12.out;have:=HK3.out;have:=HJ31.out;omega)⟩,⟨(by (with_reducible repeat (first|apply Kd.R_alloc|apply Kd.R_drewN|apply Kd.R_drew));exact Kd.R_mono (rR_ (Kd.R_types e7.out a5.out (by decide))) (fun _ hk=>trivial))⟩,⟨(by (with_reducible repeat (first|apply Kd.R_alloc|apply Kd.R_drewN|apply Kd.R_drew));exact Kd.R_mono (rR_ (Kd.R_types HO_569005.out a5.out (by decide))) (fun _ hk=>trivial))⟩,⟨tb_⟩,⟨tb_⟩,⟨th_⟩⟩
  replace fc:=Bool.eq_false_iff.mpr fc
  subst fc
  rw [if_neg nf_] at H
  by_cases e8:ak=2
  rotate_left
  ·rw [if_neg e8] at H
   have e9:=qc_ e8
   have ea:=qd_ e8
   simp only [Option.some.injEq,Prod.mk.injEq] at H
   obtain ⟨rfl,rfl,rfl,rfl,rfl,rfl,rfl⟩:=H
   have fi:=bb6_ a5.out
   have fj:=bb6_ a6.out
   go_wp2
   refine bodyPost_ret (results_ct rfl _ _ ap 62 #[.int .i64 0,.int .i64 0,.int .i64 0,.string (⟨#[]⟩:ByteArray),.slice none 0 0,.slice none 0 0] (0,0) _ rfl tb_ Tryz.underlying62 rfl kr_) rfl ?_
   exact ⟨_,_,tq_1,tq_5,tq_5,th_⟩
  rw [if_pos e8] at H
  have e9:=qa_ e8
  have ea:=qb_ e8
  clear e8
  by_cases fk:eh=true
  rotate_left
  ·replace fk:=Bool.eq_false_iff.mpr fk
   subst fk
   rw [if_neg nf_] at H
   simp only [Option.some.injEq,Prod.mk.injEq] at H
   obtain ⟨rfl,rfl,rfl,rfl,rfl,rfl,rfl⟩:=H
   have fl:=bb6_ a5.out
   have fm:=bb6_ a6.out
   go_wp2
   refine bodyPost_ret (results_ct rfl _ _ ap 62 #[.int .i64 0,.int .i64 0,.int .i64 0,.string (⟨#[]⟩:ByteArray),.slice none 0 0,.slice none 0 0] (0,0) _ rfl tb_ Tryz.underlying62 rfl kr_) rfl ?_
   exact ⟨_,_,tq_1,tq_5,tq_5,th_⟩
  subst fk
  rw [if_pos rfl] at H
  obtain ⟨h9,H⟩:=fc_ H
  have fn:=m_ h9
  clear h9
  obtain ⟨ek,dn⟩:∃ y_:List (S90),y_=(af++[(⟨b5,b6⟩:S90)]):=⟨_,rfl⟩
  replace H:(impl_ReadInode.l0 kj31 l0 yd23 (yd23.length:Int) (wrap64 (al+1)) ak an ao a8 ae ek)=some (r1,r2,r3,r4,r5,r6,r7):=rh_ dn H
  have fo:=m_ dn
  clear dn
  have H':=m_ H
  clear H
  have fp:=bb6_ a5.out
  have fq:=bb2_ BK590.out
  go_wp2_with (first|((with_reducible refine gate_builtin (b:=.append) (xs:=#[.tmp 93,.tmp 95]) rfl ?_);at_builtin;refine Kd.R_append k90 (w0:=w) w.heap.size rfl (.tmp 93) (.tmp 95) 60 90 (.agg #[(.int .i64 0),(.string ⟨#[]⟩)]) 24 rfl Tryz.underlying60 info90 rfl (by decide) (by omega) u569005 af (⟨b5,b6⟩:S90) [.int .i64 b5,.string b6] (fun k_=>k_≠gb590) (fun _=>False) rfl rfl ?aP (fun _ hk=>hk.elim) ?aF ?aO ?aB ?aS ?aL ?_;(case aP=>exact k90_mkM _ _ _ (⟨b5,b6⟩:S90));(case aB=>exact th_);(case aF=>exact (fun k_ hk=>Kd.freshB (g:=gb590) (o:=.cells #[.int .i64 b5,.string b6] 90 (0,0)) (kb_ BK590) k_ hk));(case aO=>exact (raR_ HO_569005));(case aS=>exact (below_size th_));(case aL=>have:=fn.out;omega);intro v595 js ho hb hg hat;rw [← fo.out] at ho;have z_:=p_ (Kd.R_over' (raR_ HO_569004) (Kd.R_typed (raR_ HO_569005)) (by decide) hg) <| p_ (blk_grown (g:=ap) (o:=.cells #[.int .i64 ag,.int .i64 ah,.int .i64 ai,.string aj,.slice none 0 0,.slice none 0 0] 62 (0,0)) (kb_ a6) hg (Kd.R_ne HO_569005.out a6.out (by decide))) <| p_ (blk_grown (g:=a7) (o:=.cells #[.int .i64 ak,.int .i64 an,.int .i64 ao,.string a8,u569004,u569005] 62 (0,0)) (kb_ a5) hg (Kd.R_ne HO_569005.out a5.out (by decide))) <| p_ (blk_grown (g:=ay) (o:=.cells #[.int .i64 b0,.int .i64 b1,.string b2] 86 (0,0)) (kb_ am) hg (Kd.R_ne HO_569005.out am.out (by decide))) <| p_ (blk_grown (g:=gb590) (o:=.cells #[.int .i64 b5,.string b6] 90 (0,0)) (kb_ BK590) hg (Kd.R_away HO_569005.out (fun _ hk=>hk))) <| p_ (hb) <| a_ (ho);clear HO_569004 a6 a5 am BK590 HB HO_569005;obtain ⟨HO_569004,a6,a5,am,BK590,HB,eb⟩:=z_;clear ho hb hg hat;obtain ⟨hf,hh,hm⟩:=Kd.R_slice eb.out;subst hm;have fr:=bb6_ a5.out))
  go_roundg kj31
  case measure=>have:=HJ1.out;have:=HJ12.out;have:=HK3.out;have:=HJ31.out;omega
  case rel=>exact ⟨(wrap64 (al+1)),(ag),(ah),(ai),(aj),(ae),(ek),(u569004),(.slice hf ek.length hh),tq_3,H',⟨(by have:=HJ1.out;have:=HJ12.out;have:=HK3.out;have:=HJ31.out;omega)⟩,⟨(by (with_reducible repeat (first|apply Kd.R_alloc|apply Kd.R_drewN|apply Kd.R_drew));exact Kd.R_mono (rR_ (Kd.R_types HO_569004.out a5.out (by decide))) (fun _ hk=>trivial))⟩,⟨(by (with_reducible repeat (first|apply Kd.R_alloc|apply Kd.R_drewN|apply Kd.R_drew));exact Kd.R_mono (rR_ (Kd.R_types eb.out a5.out (by decide))) (fun _ hk=>trivial))⟩,⟨tb_⟩,⟨tb_⟩,⟨th_⟩⟩
 case rest =>
 clear ed
 try clear c1;try clear c2;try clear p2;try clear c3;try clear c4;try clear b4;try clear d5;try clear c5;try clear p5;try clear q5;try clear hx5;try clear gu;try clear c6;try clear p6;try clear c7;try clear c8;try clear c9;try clear du;try clear dv;try clear gv;try clear dg;try clear ax;try clear bf;try clear el;try clear cp;try clear cq;try clear gw;try clear em;try clear dh;try clear di;try clear e4;try clear az;try clear gh;try clear e5;try clear gi;try clear e6;try clear dw;try clear dj;try clear dk;try clear iz;try clear j5;try clear j6;try clear j7;try clear j8;try clear dz;try clear b3;try clear dl;try clear j9;try clear ja;try clear jb;try clear jc;try clear jd;try clear je;try clear fc;try clear gx;try clear jt;try clear ju;try clear jv;try clear hx56;try clear jw;try clear jx;try clear jy;try clear hx57;try clear jz;try clear l3;try clear l6;try clear hx58;try clear l7;try clear l8;try clear l9;try clear e8;try clear e9;try clear ea;try clear fk;try clear h9;try clear la;try clear lc;try clear ld;try clear le;try clear lf;try clear lg;try clear lh;try clear li;try clear lj;try clear lk;try clear ll;try clear lm;try clear ln;try clear lo;try clear lp;try clear lq;try clear be;try clear bg;try clear dx;try clear dy;try clear e1;try clear e0;try clear ff;try clear fg;try clear fh;try clear fp;try clear fq;try clear fr;try clear fl;try clear fm;try clear fi;try clear e2;try clear fj;try clear be;try clear bg;try clear dx;try clear dy;try clear e1;try clear e0;try clear ff;try clear fg;try clear fh;try clear fp;try clear fq;try clear fr;try clear fl;try clear fm;try clear fi;try clear e2;try clear fj;try clear hx569_0;try clear hx572_0;try clear hx575_0;try clear hx578_0;try clear aw;try clear p2;try clear p5;try clear bi;try clear bl;try clear bn;try clear bp;try clear b9;try clear q5;try clear bj;try clear bm;try clear bo;try clear bq;try clear ba
 obtain ⟨kq,aq,ar,au,av,a9,aa,u569004,u569005,HA,HJ21,HO_569004,HO_569005,a6,a5,HB⟩:=hcut
 cases kq with
 | zero=>exact absurd HA.out (by simp [impl_ReadInode.j4])
 | succ kj21 =>
 have H:=HA.out
 clear HA
 simp only [impl_ReadInode.j4] at H
 obtain ⟨hu,i0,H⟩:=bd_ H
 by_cases gj:hu=true
 rotate_left
 ·replace gj:=Bool.eq_false_iff.mpr gj
  subst gj
  rw [if_neg nf_] at H
  simp only [Option.some.injEq,Prod.mk.injEq] at H
  obtain ⟨rfl,rfl,rfl,rfl,rfl,rfl,rfl⟩:=H
  have ig:=bb6_ a5.out
  obtain ⟨fs,ft,fu⟩:=Kd.R_slice HO_569004.out
  subst fu
  obtain ⟨fw,fx,fy⟩:=Kd.R_slice HO_569005.out
  subst fy
  go_wp2_with (first|((with_reducible refine gate_callee (f:=91) rfl ?_);refine goesL_ (some 100) rfl rfl Tryz.func91 kr_ rfl #[.agg #[.int .i64 ak,.int .i64 an,.int .i64 ao,.string a8,.slice fs a9.length ft,.slice fw aa.length fx]] rfl tq_0 ?_;(with_reducible refine (impl_InodeOk.calls kj21 ak an ao a8 _ _ a9 _ _ aa false _ ?side1 ?side2 ?side3 ?side4 i0.out).mono ?_);(case side1=>exact tq_20);(case side2=>exact (Kd.R_reads' HO_569004.out).2.1);(case side3=>exact tq_19);(case side4=>exact (Kd.R_reads' HO_569005.out).2.1);rintro e jf ⟨rfl,hb⟩;refine ⟨_,rfl,?_⟩;have z_:=p_ (Kd.R_below (raR_ HO_569004) hb) <| p_ (Kd.R_below (raR_ HO_569005) hb) <| bw2_ (kb_ a6) (kb_ a5) th_ hb;clear HO_569004 HO_569005 a6 a5 HB;obtain ⟨HO_569004,HO_569005,a6,a5,HB⟩:=z_;(try clear hb);have ii:=bb6_ a6.out))
  refine bodyPost_ret (results_ct rfl _ _ ap 62 #[.int .i64 0,.int .i64 0,.int .i64 0,.string (⟨#[]⟩:ByteArray),.slice none 0 0,.slice none 0 0] (0,0) _ rfl tb_ Tryz.underlying62 rfl kr_) rfl ?_
  exact ⟨_,_,tq_1,tq_5,tq_5,th_⟩
 subst gj
 rw [if_pos rfl] at H
 obtain ⟨bh,ij,H⟩:=bd_ H
 obtain ⟨i1,ik,H⟩:=bd_ H
 by_cases gl:i1=true
 rotate_left
 ·replace gl:=Bool.eq_false_iff.mpr gl
  subst gl
  rw [if_neg nf_] at H
  simp only [Option.some.injEq,Prod.mk.injEq] at H
  obtain ⟨rfl,rfl,rfl,rfl,rfl,rfl,rfl⟩:=H
  have il:=bb6_ a5.out
  obtain ⟨dp,dq,fz⟩:=Kd.R_slice HO_569004.out
  subst fz
  obtain ⟨dr,dt,g6⟩:=Kd.R_slice HO_569005.out
  subst g6
  go_wp2_with (first|((with_reducible refine gate_callee (f:=91) rfl ?_);refine goesL_ (some 100) rfl rfl Tryz.func91 kr_ rfl #[.agg #[.int .i64 ak,.int .i64 an,.int .i64 ao,.string a8,.slice dp a9.length dq,.slice dr aa.length dt]] rfl tq_0 ?_;(with_reducible refine (impl_InodeOk.calls kj21 ak an ao a8 _ _ a9 _ _ aa true _ ?side1 ?side2 ?side3 ?side4 i0.out).mono ?_);(case side1=>exact tq_20);(case side2=>exact (Kd.R_reads' HO_569004.out).2.1);(case side3=>exact tq_19);(case side4=>exact (Kd.R_reads' HO_569005.out).2.1);rintro e jg ⟨rfl,hb⟩;refine ⟨_,rfl,?_⟩;have z_:=p_ (Kd.R_below (raR_ HO_569004) hb) <| p_ (Kd.R_below (raR_ HO_569005) hb) <| bw2_ (kb_ a6) (kb_ a5) th_ hb;clear HO_569004 HO_569005 a6 a5 HB;obtain ⟨HO_569004,HO_569005,a6,a5,HB⟩:=z_;(try clear hb);(try clear hk);have im:=bb6_ a5.out)|(go_at_call 92;(with_reducible refine (impl_inodeText.calls kj21 ak an ao a8 _ _ a9 _ _ aa bh _ ?side1 ?side2 ?side3 ?side4 ij.out).mono ?_);(case side1=>exact tq_20);(case side2=>exact (Kd.R_reads' HO_569004.out).2.1);(case side3=>exact tq_19);(case side4=>exact (Kd.R_reads' HO_569005.out).2.1);rintro e bc ⟨v599,rfl,ho0,hb⟩;have z_:=p_ (Kd.R_below (raR_ HO_569004) hb) <| p_ (Kd.R_below (raR_ HO_569005) hb) <| p_ (Kd.R_lower ho0 (below_size th_)) <| bw2_ (kb_ a6) (kb_ a5) th_ hb;clear HO_569004 HO_569005 a6 a5 HB;obtain ⟨HO_569004,HO_569005,HO600,a6,a5,HB⟩:=z_;(try clear hb);(try clear ho0);obtain ⟨g7,g8,g9⟩:=Kd.R_slice HO600.out;subst g9)|(go_at_call 84;(with_reducible refine (slices_Equal_string.calls kj21 _ _ bh _ _ l0 false _ ?side1 ?side2 ?side3 ?side4 ik.out).mono ?_);(case side1=>exact tq_100);(case side2=>exact (Kd.R_reads' HO600.out).2.1);(case side3=>exact tq_11);(case side4=>exact gf.out);rintro e w' ⟨rfl,⟨nd,rfl⟩⟩;(try (rw [drewN_self bc];generalize hq_:World.drewN bc _=bc;have z_:=q_ (⟨(by rw [← hq_];exact (raR_ HO600))⟩:Aside0 (Kd.R Kd.string 9 bc w.heap.size (fun k_=>True) (.slice g7 bh.length g8) bh)) <| q_ (⟨(by rw [← hq_];exact (raR_ HO_569004))⟩:Aside0 (Kd.R k86 86 bc w.heap.size (fun k_=>True) (.slice dp a9.length dq) a9)) <| q_ (⟨(by rw [← hq_];exact (raR_ HO_569005))⟩:Aside0 (Kd.R k90 90 bc w.heap.size (fun k_=>True) (.slice dr aa.length dt) aa)) <| q_ (⟨(by rw [← hq_];exact (kb_ a6))⟩:Aside0 (bc.heap[ap]?=some (.cells #[.int .i64 aq,.int .i64 ar,.int .i64 au,.string av,.slice none 0 0,.slice none 0 0] 62 (0,0)))) <| q_ (⟨(by rw [← hq_];exact (kb_ a5))⟩:Aside0 (bc.heap[a7]?=some (.cells #[.int .i64 ak,.int .i64 an,.int .i64 ao,.string a8,.slice dp a9.length dq,.slice dr aa.length dt] 62 (0,0)))) <| (⟨tq_74⟩:Aside0 (Below w.heap.size w bc));clear HO600 HO_569004 HO_569005 a6 a5 HB hq_;obtain ⟨HO600,HO_569004,HO_569005,a6,a5,HB⟩:=z_));have io:=bb6_ a6.out))
  refine bodyPost_ret (results_ct rfl _ _ ap 62 #[.int .i64 0,.int .i64 0,.int .i64 0,.string (⟨#[]⟩:ByteArray),.slice none 0 0,.slice none 0 0] (0,0) _ rfl tb_ Tryz.underlying62 rfl kr_) rfl ?_
  exact ⟨_,_,tq_1,tq_5,tq_5,th_⟩
 subst gl
 rw [if_pos rfl] at H
 simp only [Option.some.injEq,Prod.mk.injEq] at H
 obtain ⟨rfl,rfl,rfl,rfl,rfl,rfl,rfl⟩:=H
 have jh:=bb6_ a5.out
 obtain ⟨d1,d2,ga⟩:=Kd.R_slice HO_569004.out
 subst ga
 obtain ⟨d3,d4,gb⟩:=Kd.R_slice HO_569005.out
 subst gb
 go_wp2_with (first|((with_reducible refine gate_callee (f:=91) rfl ?_);refine goesL_ (some 100) rfl rfl Tryz.func91 kr_ rfl #[.agg #[.int .i64 ak,.int .i64 an,.int .i64 ao,.string a8,.slice d1 a9.length d2,.slice d3 aa.length d4]] rfl tq_0 ?_;(with_reducible refine (impl_InodeOk.calls kj21 ak an ao a8 _ _ a9 _ _ aa true _ ?side1 ?side2 ?side3 ?side4 i0.out).mono ?_);(case side1=>exact tq_20);(case side2=>exact (Kd.R_reads' HO_569004.out).2.1);(case side3=>exact tq_19);(case side4=>exact (Kd.R_reads' HO_569005.out).2.1);rintro e ji ⟨rfl,hb⟩;refine ⟨_,rfl,?_⟩;have z_:=p_ (Kd.R_below (raR_ HO_569004) hb) <| p_ (Kd.R_below (raR_ HO_569005) hb) <| bw2_ (kb_ a6) (kb_ a5) th_ hb;clear HO_569004 HO_569005 a6 a5 HB;obtain ⟨HO_569004,HO_569005,a6,a5,HB⟩:=z_;(try clear hb);have ip:=bb6_ a5.out)|(go_at_call 92;(with_reducible refine (impl_inodeText.calls kj21 ak an ao a8 _ _ a9 _ _ aa bh _ ?side1 ?side2 ?side3 ?side4 ij.out).mono ?_);(case side1=>exact tq_20);(case side2=>exact (Kd.R_reads' HO_569004.out).2.1);(case side3=>exact tq_19);(case side4=>exact (Kd.R_reads' HO_569005.out).2.1);rintro e bd ⟨v599,rfl,ho0,hb⟩;have z_:=p_ (Kd.R_below (raR_ HO_569004) hb) <| p_ (Kd.R_below (raR_ HO_569005) hb) <| p_ (Kd.R_lower ho0 (below_size th_)) <| bw2_ (kb_ a6) (kb_ a5) th_ hb;clear HO_569004 HO_569005 a6 a5 HB;obtain ⟨HO_569004,HO_569005,HO600,a6,a5,HB⟩:=z_;(try clear hb);(try clear ho0);obtain ⟨gc,gd,ge⟩:=Kd.R_slice HO600.out;subst ge)|(go_at_call 84;(with_reducible refine (slices_Equal_string.calls kj21 _ _ bh _ _ l0 true _ ?side1 ?side2 ?side3 ?side4 ik.out).mono ?_);(case side1=>exact tq_100);(case side2=>exact (Kd.R_reads' HO600.out).2.1);(case side3=>exact tq_11);(case side4=>exact gf.out);rintro e w' ⟨rfl,⟨nd,rfl⟩⟩;(try (rw [drewN_self bd];generalize hq_:World.drewN bd _=bd;have z_:=q_ (⟨(by rw [← hq_];exact (raR_ HO600))⟩:Aside0 (Kd.R Kd.string 9 bd w.heap.size (fun k_=>True) (.slice gc bh.length gd) bh)) <| q_ (⟨(by rw [← hq_];exact (raR_ HO_569004))⟩:Aside0 (Kd.R k86 86 bd w.heap.size (fun k_=>True) (.slice d1 a9.length d2) a9)) <| q_ (⟨(by rw [← hq_];exact (raR_ HO_569005))⟩:Aside0 (Kd.R k90 90 bd w.heap.size (fun k_=>True) (.slice d3 aa.length d4) aa)) <| q_ (⟨(by rw [← hq_];exact (kb_ a6))⟩:Aside0 (bd.heap[ap]?=some (.cells #[.int .i64 aq,.int .i64 ar,.int .i64 au,.string av,.slice none 0 0,.slice none 0 0] 62 (0,0)))) <| q_ (⟨(by rw [← hq_];exact (kb_ a5))⟩:Aside0 (bd.heap[a7]?=some (.cells #[.int .i64 ak,.int .i64 an,.int .i64 ao,.string a8,.slice d1 a9.length d2,.slice d3 aa.length d4] 62 (0,0)))) <| (⟨tq_74⟩:Aside0 (Below w.heap.size w bd));clear HO600 HO_569004 HO_569005 a6 a5 HB hq_;obtain ⟨HO600,HO_569004,HO_569005,a6,a5,HB⟩:=z_));have iq:=bb6_ a5.out;have ir:=bb6_ a6.out))
 refine bodyPost_ret (results_ct rfl _ _ ap 62 #[.int .i64 ak,.int .i64 an,.int .i64 ao,.string a8,.slice d1 a9.length d2,.slice d3 aa.length d4] (0,0) _ rfl tb_ Tryz.underlying62 rfl kr_) rfl ?_
 exact ⟨_,_,tq_1,(by (with_reducible repeat (first|apply Kd.R_alloc|apply Kd.R_drewN|apply Kd.R_drew));exact Kd.R_mono (rR_ (rR_ (rR_ (rR_ (rR_ (rR_ (Kd.R_types HO_569004.out a6.out (by decide)))))))) (fun _ hk=>trivial)),(by (with_reducible repeat (first|apply Kd.R_alloc|apply Kd.R_drewN|apply Kd.R_drew));exact Kd.R_mono (rR_ (rR_ (rR_ (rR_ (rR_ (rR_ (Kd.R_types HO_569005.out a6.out (by decide)))))))) (fun _ hk=>trivial)),th_⟩

def impl_InodeAt.f (a6:Int) (a7:Int) (a5:Int) (a8:Int) (a1:Int) (a2:Int):Option (Int):=(impl_within.f a2 0 (wrap64 (a5 - 1))).bind fun a9=>((impl_inPart.f a6 a7 a5 a8 a1 a9 (wrap64 (38+(wrap64 (8 * a2))))).bind fun aa=>(some aa))
def impl_InodeAt.T1:Bool × List (List Nat × List Nat):=(true,[([],[]),([],[]),([],[]),([],[]),([3],[3]),([4],[4]),([2,5],[2,5]),([],[]),([7],[7]),([8],[8]),([0,1,6,9,6],[0,1,6,9]),([10,10,0,1,2,3,4,5,6,7,8,9,10],[10])])
def impl_InodeAt.B1:List Nat:=[0,0,0,0,8,24,60,0,128,384,1023,2047]
theorem impl_InodeAt.tab1:rtab .any (opsOf Tryz.f65 1)=impl_InodeAt.T1:=by kernel_rfl
theorem impl_InodeAt.bits1:waitsOk impl_InodeAt.T1.2 impl_InodeAt.B1=true:=by kernel_rfl
theorem impl_InodeAt.calls (a8:Int) (a9:Int) (a6:Int) (aa:Int) (a1:Int) (a2:Int) (r:Int) (w:World) (h:impl_InodeAt.f a8 a9 a6 aa a1 a2=some r) :
  Calls Tryz.prog 65 #[.agg #[.int .i64 a8,.int .i64 a9,.int .i64 a6,.int .i64 aa],.int .i64 a1,.int .i64 a2] w fun e w'=>e=.returned (.int .i64 r)∧Below w.heap.size w w':=by
 have hu38:=Tryz.underlying38
 have HB:=m_ (Below.refl w.heap.size w)
 unfold impl_InodeAt.f at h
 have H:=h
 clear h
 obtain ⟨ab,A4,H⟩:=bd_ H
 obtain ⟨ac,A5,H⟩:=bd_ H
 obtain rfl:=oi_ H
 go_enter Tryz.func65,Tryz.ntmps65
 try go_wp2_with (first|((with_reducible refine gate_dst (N:=3) rfl ?_);refine be_ 3 (cs:=#[.int .i64 a8,.int .i64 a9,.int .i64 a6,.int .i64 aa]) 38 ?_;intro a7 hg w6 hbox hb;have z_:=bx0_ th_ hb hbox hg;clear HB;obtain ⟨HB,a5,ae,af⟩:=z_;clear hb hbox hg))
 have z_:=dw1_ a5 HB
 clear a5 HB
 obtain ⟨a5,HB⟩:=z_
 refine start_ (n:=12) (S:=fun w'=>w'.cell? ⟨a7,0,none⟩=some (.int .i64 a8)∧w'.cell? ⟨a7,1,none⟩=some (.int .i64 a9)∧w'.cell? ⟨a7,2,none⟩=some (.int .i64 a6)∧w'.cell? ⟨a7,3,none⟩=some (.int .i64 aa)) (ds:=[]) bq_201 kr_ rfl rfl (bk4_ a5.out) (fun hHeld=>?_);refine with_tabW impl_InodeAt.tab1 impl_InodeAt.bits1 (fun HT_ HW_=>?_)
 generalize w6.drew=w7 at a5 HB hHeld ⊢
 refine yr_ 1 8 #[F_,T_,F_,F_,F_,F_,F_,F_,F_,F_,F_,F_] HT_ ?_
 refine yr_ 2 9 #[F_,T_,T_,F_,F_,F_,F_,F_,F_,F_,F_,F_] HT_ ?_
 refine yr_ 3 10 #[F_,T_,T_,T_,F_,F_,F_,F_,F_,F_,F_,F_] HT_ ?_
 refine yr_ 7 14 #[F_,T_,T_,T_,F_,F_,F_,T_,F_,F_,F_,F_] HT_ ?_
 refine yr_ 8 15 #[F_,T_,T_,T_,F_,F_,F_,T_,T_,F_,F_,F_] HT_ ?_
 refine yr_ 9 16 #[F_,T_,T_,T_,F_,F_,F_,T_,T_,T_,F_,F_] HT_ ?_
 refine tr_ 0 7 #[T_,T_,T_,T_,F_,F_,F_,T_,T_,T_,F_,F_] HT_ HW_ hHeld ?_
 refine tr_ 4 11 #[T_,T_,T_,T_,T_,F_,F_,T_,T_,T_,F_,F_] HT_ HW_ hHeld ?_
 refine yr_ 5 12 #[T_,T_,T_,T_,T_,T_,F_,T_,T_,T_,F_,F_] HT_ ?_
 refine one_ (i:=6) (N:=some 13) bq_1 rfl rfl (one_of HT_.out kr_) (by decide) (fun K hK=>?_)
 refine goes_ Tryz.func57 kr_ rfl #[.int .i64 a2,.int .i64 0,.int .i64 (wrap64 (a6 - 1))] (by rfl) rfl rfl tq_0 ?_
 with_reducible refine (impl_within.calls a2 0 (wrap64 (a6 - 1)) ab _ A4.out).mono ?_
 rintro e w' ⟨rfl,⟨nd,rfl⟩⟩
 refine ⟨_,rfl,?_⟩
 refine hK.out _ _ (bk4_ a5.out) (fun hHeld=>?_)
 clear hK K
 refine nm_ (some 13) ?_
 refine one_ (i:=10) (N:=some 17) bq_202 rfl rfl (one_of HT_.out kr_) (by decide) (fun K hK=>?_)
 refine goes_ Tryz.func83 kr_ rfl #[.agg #[.int .i64 a8,.int .i64 a9,.int .i64 a6,.int .i64 aa],.int .i64 a1,.bool ab,.int .i64 (wrap64 (38+(wrap64 (8 * a2))))] (by rfl) rfl rfl tq_0 ?_
 with_reducible refine (impl_inPart.calls a8 a9 a6 aa a1 ab (wrap64 (38+(wrap64 (8 * a2)))) ac _ A5.out).mono ?_
 rintro e w8 ⟨rfl,hb⟩
 refine ⟨_,rfl,?_⟩
 have z_:=bw1_ (kb_ a5) th_ hb
 clear a5 HB
 obtain ⟨a5,HB⟩:=z_
 (try clear hb)
 refine hK.out _ _ (bk4_ a5.out) (fun hHeld=>?_)
 clear hK K
 refine nm_ (some 17) ?_
 refine yr_ 11 6 bq_203 HT_ ?_
 refine done_ (done_of HT_.out kr_) ?_
 try go_wp2
 go_ret
 exact ⟨tq_1,th_⟩

end Go.Proofs.YtleoknilacjakaaGreatDoor.PFnExactReadPart
