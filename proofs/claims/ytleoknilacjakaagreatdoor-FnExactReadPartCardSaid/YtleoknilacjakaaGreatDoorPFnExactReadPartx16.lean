/- Contracts of Go functions: each call returns what the Lean function beside it computes. Conditions: as each theorem states them. -/
import Derived.Test.YtleoknilacjakaaGreatDoorPkFnExactReadPart
import Derived.Test.YtleoknilacjakaaGreatDoorPFnExactReadPartx3
import Derived.Test.YtleoknilacjakaaGreatDoorPFnExactReadPartx13
namespace Go.Proofs.YtleoknilacjakaaGreatDoor.PFnExactReadPart
open Go.RowKit Go.Proofs.YtleoknilacjakaaGreatDoorW.PrintWords Go.Proofs.YtleoknilacjakaaGreatDoorW.PrintLast Go.Proofs.YtleoknilacjakaaGreatDoorW.PrintMore
attribute [local go_sem] max2_int min2_int max_two min_two max_three min_three max_four min_four setCell_drewN   -- for this text's walks alone
set_option linter.unusedVariables false
set_option maxHeartbeats 8000000
set_option maxRecDepth 100000
set_option linter.unusedSimpArgs false

def impl_GeoOk.f (a6:Int) (a5:Int) (a7:Int) (a8:Int):Option (Bool):=(impl_within.f a6 1 3).bind fun a9=>(if a9=true then ((impl_within.f a5 5 12).bind fun aa=>(if aa=true then ((impl_within.f a7 2 6).bind fun ab=>(if ab=true then ((impl_within.f a8 1 (wrap64 (a5 - 4))).bind fun ac=>(some ac)) else (some false))) else (some false))) else (some false))
theorem impl_GeoOk.calls (a5:Int) (a7:Int) (a8:Int) (a9:Int) (r:Bool) (w:World) (h:impl_GeoOk.f a5 a7 a8 a9=some r) :
  Calls Tryz.prog 55 #[.agg #[.int .i64 a5,.int .i64 a7,.int .i64 a8,.int .i64 a9]] w fun e w'=>e=.returned (.bool r)∧Below w.heap.size w w':=by
 have hu38:=Tryz.underlying38
 have HB:=m_ (Below.refl w.heap.size w)
 unfold impl_GeoOk.f at h
 have H:=h
 clear h
 obtain ⟨ae,A2,H⟩:=bd_ H
 by_cases c3:ae=true
 rotate_left
 ·replace c3:=Bool.eq_false_iff.mpr c3
  subst c3
  rw [if_neg nf_] at H
  obtain rfl:=oi_ H
  go_enter Tryz.func55,Tryz.ntmps55
  go_wp2_with (first|((with_reducible refine gate_dst (N:=1) rfl ?_);refine be_ 1 (cs:=#[.int .i64 a5,.int .i64 a7,.int .i64 a8,.int .i64 a9]) 38 ?_;intro aa hg am hbox hb;have z_:=bx0_ th_ hb hbox hg;clear HB;obtain ⟨HB,a6,ab,ac⟩:=z_;clear hb hbox hg;have ai:=bb4_ a6.out)|((with_reducible refine gate_callee (f:=57) rfl ?_);refine goesL_ (some 5) rfl rfl Tryz.func57 kr_ rfl #[.int .i64 a5,.int .i64 1,.int .i64 3] rfl tq_0 ?_;(with_reducible refine (impl_within.calls a5 1 3 false _ A2.out).mono ?_);rintro e w' ⟨rfl,⟨nd,rfl⟩⟩;refine ⟨_,rfl,?_⟩))
  go_ret
  exact ⟨tq_1,th_⟩
 subst c3
 rw [if_pos rfl] at H
 obtain ⟨af,A4,H⟩:=bd_ H
 by_cases c5:af=true
 rotate_left
 ·replace c5:=Bool.eq_false_iff.mpr c5
  subst c5
  rw [if_neg nf_] at H
  obtain rfl:=oi_ H
  go_enter Tryz.func55,Tryz.ntmps55
  go_wp2_with (first|((with_reducible refine gate_dst (N:=1) rfl ?_);refine be_ 1 (cs:=#[.int .i64 a5,.int .i64 a7,.int .i64 a8,.int .i64 a9]) 38 ?_;intro aa hg an hbox hb;have z_:=bx0_ th_ hb hbox hg;clear HB;obtain ⟨HB,a6,ab,ac⟩:=z_;clear hb hbox hg;have aj:=bb4_ a6.out)|((with_reducible refine gate_callee (f:=57) rfl ?_);refine goesL_ (some 5) rfl rfl Tryz.func57 kr_ rfl #[.int .i64 a5,.int .i64 1,.int .i64 3] rfl tq_0 ?_;(with_reducible refine (impl_within.calls a5 1 3 true _ A2.out).mono ?_);rintro e w' ⟨rfl,⟨nd,rfl⟩⟩;refine ⟨_,rfl,?_⟩)|(go_at_call 57;(with_reducible refine (impl_within.calls a7 5 12 false _ A4.out).mono ?_);rintro e w' ⟨rfl,⟨nd,rfl⟩⟩))
  go_ret
  exact ⟨tq_1,th_⟩
 subst c5
 rw [if_pos rfl] at H
 obtain ⟨ag,A6,H⟩:=bd_ H
 by_cases c7:ag=true
 rotate_left
 ·replace c7:=Bool.eq_false_iff.mpr c7
  subst c7
  rw [if_neg nf_] at H
  obtain rfl:=oi_ H
  go_enter Tryz.func55,Tryz.ntmps55
  go_wp2_with (first|((with_reducible refine gate_dst (N:=1) rfl ?_);refine be_ 1 (cs:=#[.int .i64 a5,.int .i64 a7,.int .i64 a8,.int .i64 a9]) 38 ?_;intro aa hg ao hbox hb;have z_:=bx0_ th_ hb hbox hg;clear HB;obtain ⟨HB,a6,ab,ac⟩:=z_;clear hb hbox hg;have ak:=bb4_ a6.out)|((with_reducible refine gate_callee (f:=57) rfl ?_);refine goesL_ (some 5) rfl rfl Tryz.func57 kr_ rfl #[.int .i64 a5,.int .i64 1,.int .i64 3] rfl tq_0 ?_;(with_reducible refine (impl_within.calls a5 1 3 true _ A2.out).mono ?_);rintro e w' ⟨rfl,⟨nd,rfl⟩⟩;refine ⟨_,rfl,?_⟩)|(go_at_call 57;(with_reducible refine (impl_within.calls a7 5 12 true _ A4.out).mono ?_);rintro e w' ⟨rfl,⟨nd,rfl⟩⟩)|(go_at_call 57;(with_reducible refine (impl_within.calls a8 2 6 false _ A6.out).mono ?_);rintro e w' ⟨rfl,⟨nd,rfl⟩⟩))
  go_ret
  exact ⟨tq_1,th_⟩
 subst c7
 rw [if_pos rfl] at H
 obtain ⟨ah,A8,H⟩:=bd_ H
 obtain rfl:=oi_ H
 go_enter Tryz.func55,Tryz.ntmps55
 go_wp2_with (first|((with_reducible refine gate_dst (N:=1) rfl ?_);refine be_ 1 (cs:=#[.int .i64 a5,.int .i64 a7,.int .i64 a8,.int .i64 a9]) 38 ?_;intro aa hg w9 hbox hb;have z_:=bx0_ th_ hb hbox hg;clear HB;obtain ⟨HB,a6,ab,ac⟩:=z_;clear hb hbox hg;have al:=bb4_ a6.out)|((with_reducible refine gate_callee (f:=57) rfl ?_);refine goesL_ (some 5) rfl rfl Tryz.func57 kr_ rfl #[.int .i64 a5,.int .i64 1,.int .i64 3] rfl tq_0 ?_;(with_reducible refine (impl_within.calls a5 1 3 true _ A2.out).mono ?_);rintro e w' ⟨rfl,⟨nd,rfl⟩⟩;refine ⟨_,rfl,?_⟩)|(go_at_call 57;(with_reducible refine (impl_within.calls a7 5 12 true _ A4.out).mono ?_);rintro e w' ⟨rfl,⟨nd,rfl⟩⟩)|(go_at_call 57;(with_reducible refine (impl_within.calls a8 2 6 true _ A6.out).mono ?_);rintro e w' ⟨rfl,⟨nd,rfl⟩⟩)|(go_at_call 57;(with_reducible refine (impl_within.calls a9 1 (wrap64 (a7 - 4)) ah _ A8.out).mono ?_);rintro e w' ⟨rfl,⟨nd,rfl⟩⟩))
 go_ret
 exact ⟨tq_1,th_⟩

def impl_Geo_partWords.f (a7:Int) (a5:Int) (a6:Int) (a8:Int):Option (Int):=some (wrap64 ((wrap64 (38+(wrap64 (8 * a6))))+(wrap64 (4 * a5))))
theorem impl_Geo_partWords.calls (a5:Int) (a6:Int) (a7:Int) (a8:Int) (r:Int) (w:World) (h:impl_Geo_partWords.f a5 a6 a7 a8=some r) :
  Calls Tryz.prog 79 #[.agg #[.int .i64 a5,.int .i64 a6,.int .i64 a7,.int .i64 a8]] w fun e w'=>e=.returned (.int .i64 r)∧Below w.heap.size w w':=by
 have hu38:=Tryz.underlying38
 have HB:=m_ (Below.refl w.heap.size w)
 unfold impl_Geo_partWords.f at h
 have H:=h
 clear h
 obtain rfl:=oi_ H
 go_enter Tryz.func79,Tryz.ntmps79
 go_wp2_with (first|((with_reducible refine gate_dst (N:=1) rfl ?_);refine be_ 1 (cs:=#[.int .i64 a5,.int .i64 a6,.int .i64 a7,.int .i64 a8]) 38 ?_;intro aa hg w2 hbox hb;have z_:=bx0_ th_ hb hbox hg;clear HB;obtain ⟨HB,a9,ab,ac⟩:=z_;clear hb hbox hg;have ae:=bb4_ a9.out))
 go_ret
 exact ⟨tq_1,th_⟩

def impl_Geo_lines.f (a5:Int) (a6:Int) (a7:Int) (a8:Int):Option (Int):=(impl_Geo_partWords.f a5 a6 a7 a8).bind fun a9=>(some (wrap64 (Int.tdiv (wrap64 (a5 * a9)) 2)))
theorem impl_Geo_lines.calls (a7:Int) (a8:Int) (a9:Int) (aa:Int) (r:Int) (w:World) (h:impl_Geo_lines.f a7 a8 a9 aa=some r) :
  Calls Tryz.prog 56 #[.agg #[.int .i64 a7,.int .i64 a8,.int .i64 a9,.int .i64 aa]] w fun e w'=>e=.returned (.int .i64 r)∧Below w.heap.size w w':=by
 have hu38:=Tryz.underlying38
 have HB:=m_ (Below.refl w.heap.size w)
 unfold impl_Geo_lines.f at h
 have H:=h
 clear h
 obtain ⟨ab,A2,H⟩:=bd_ H
 obtain rfl:=oi_ H
 go_enter Tryz.func56,Tryz.ntmps56
 try go_wp2_with (first|((with_reducible refine gate_dst (N:=1) rfl ?_);refine be_ 1 (cs:=#[.int .i64 a7,.int .i64 a8,.int .i64 a9,.int .i64 aa]) 38 ?_;intro a6 hg w3 hbox hb;have z_:=bx0_ th_ hb hbox hg;clear HB;obtain ⟨HB,a5,ac,ae⟩:=z_;clear hb hbox hg))
 have z_:=dw1_ a5 HB
 clear a5 HB
 obtain ⟨a5,HB⟩:=z_
 refine start_ (n:=7) (S:=fun w'=>w'.cell? ⟨a6,0,none⟩=some (.int .i64 a7)∧w'.cell? ⟨a6,1,none⟩=some (.int .i64 a8)∧w'.cell? ⟨a6,2,none⟩=some (.int .i64 a9)∧w'.cell? ⟨a6,3,none⟩=some (.int .i64 aa)) (ds:=[]) #[F_,F_,F_,F_,F_,F_,F_] kr_ rfl rfl (bk4_ a5.out) (fun hHeld=>?_)
 generalize w3.drew=w4 at a5 HB hHeld ⊢
 refine yq_ (i:=0) (N:=some 3) #[T_,F_,F_,F_,F_,F_,F_] kr_ ?_
 refine take_ (i:=1) (N:=some 4) (v:=?_) (a':=?_) #[T_,T_,F_,F_,F_,F_,F_] rfl rfl kr_ (fun _ _ _ h=>h) (Or.inl ⟨(by rfl),?_⟩) hHeld ?_ ?_
 rotate_left
 ·rintro w' ⟨s0,s1,s2,s3⟩
  go_simp
  with_reducible rfl
 rotate_left
 ·simp only [Act.put,List.setIfInBounds_toArray,List.set_cons_zero,List.set_cons_succ,i64_w,i32_w]
  rfl
 refine take_ (i:=2) (N:=some 5) (v:=?_) (a':=?_) #[T_,T_,T_,F_,F_,F_,F_] rfl rfl kr_ (fun _ _ _ h=>h) (Or.inl ⟨(by rfl),?_⟩) hHeld ?_ ?_
 rotate_left
 ·rintro w' ⟨s0,s1,s2,s3⟩
  go_simp
  with_reducible rfl
 rotate_left
 ·simp only [Act.put,List.setIfInBounds_toArray,List.set_cons_zero,List.set_cons_succ,i64_w,i32_w]
  rfl
 refine one_ (i:=3) (N:=some 6) #[T_,T_,T_,T_,F_,F_,F_] rfl rfl kr_ (by decide) (fun K hK=>?_)
 refine goes_ Tryz.func79 kr_ rfl #[.agg #[.int .i64 a7,.int .i64 a8,.int .i64 a9,.int .i64 aa]] (by rfl) rfl rfl tq_0 ?_
 with_reducible refine (impl_Geo_partWords.calls a7 a8 a9 aa ab _ A2.out).mono ?_
 rintro e w5 ⟨rfl,hb⟩
 refine ⟨_,rfl,?_⟩
 have z_:=bw1_ (kb_ a5) th_ hb
 clear a5 HB
 obtain ⟨a5,HB⟩:=z_
 (try clear hb)
 refine hK.out _ _ (bk4_ a5.out) (fun hHeld=>?_)
 clear hK K
 refine nm_ (some 6) ?_
 refine yq_ (i:=4) (N:=some 7) #[T_,T_,T_,T_,T_,F_,F_] kr_ ?_
 refine yq_ (i:=5) (N:=some 8) #[T_,T_,T_,T_,T_,T_,F_] kr_ ?_
 refine yq_ (i:=6) (N:=some 2) #[T_,T_,T_,T_,T_,T_,T_] kr_ ?_
 refine done_ kr_ ?_
 try go_wp2
 go_ret
 exact ⟨tq_1,th_⟩

def impl_isPlaced.f (k:Nat) (a5:ByteArray) (aa:List (S78)) (a6:Int) (a7:Int) (a8:Int) (a9:Int):Option (Bool):=(impl_MemoryOk.f k a5 aa).bind fun ab=>(if ab=true then ((impl_GeoOk.f a6 a7 a8 a9).bind fun ac=>(if ac=true then ((impl_Geo_lines.f a6 a7 a8 a9).bind fun ae=>(some (decide ((wrap64 ((a5.size:Int) / 16)) ≥ ae)))) else (some false))) else (some false))
def impl_isPlaced.T1:Bool × List (List Nat × List Nat):=(true,[([],[]),([0],[0]),([1,1],[1]),([2],[2]),([3,2,2],[2,3]),([2,4],[2,4]),([5,4],[5]),([6],[6]),([7,6],[6,7]),([8,6],[6,8]),([9,6],[6,9]),([6],[6]),([11,6,6],[6,11]),([10,12,6],[6,10,12]),([6,13],[6,13]),([14,12,0,1,2,3,4,5,6,7,8,9,10,11,12,13,14],[14])])
def impl_isPlaced.B1:List Nat:=[0,1,3,7,15,31,63,127,255,511,1023,127,2175,8191,16383,32767]
theorem impl_isPlaced.tab1:rtab .any (opsOf Tryz.f29 1)=impl_isPlaced.T1:=by kernel_rfl
theorem impl_isPlaced.bits1:waitsOk impl_isPlaced.T1.2 impl_isPlaced.B1=true:=by kernel_rfl
theorem impl_isPlaced.calls (k:Nat) (a9:ByteArray) (ag:Option Addr) (ah:Nat) (a7:List (S78)) (aa:Int) (ab:Int) (ac:Int) (ae:Int) (r:Bool) (w:World) (al:Kd.C k78 w ag a7.length a7) (am:a7.length≤ah) (h:impl_isPlaced.f k a9 a7 aa ab ac ae=some r) :
  Calls Tryz.prog 29 #[.agg #[.string a9,.slice ag a7.length ah],.agg #[.int .i64 aa,.int .i64 ab,.int .i64 ac,.int .i64 ae]] w fun e w'=>e=.returned (.bool r)∧Below w.heap.size w w':=by
 have hu36:=Tryz.underlying36
 have hu38:=Tryz.underlying38
 have HR0_1:=m_ al
 have ak:=m_ am
 clear al am
 have HB:=m_ (Below.refl w.heap.size w)
 unfold impl_isPlaced.f at h
 have H:=h
 clear h
 obtain ⟨ar,A3,H⟩:=bd_ H
 by_cases c4:ar=true
 rotate_left
 ·replace c4:=Bool.eq_false_iff.mpr c4
  subst c4
  rw [if_neg nf_] at H
  obtain rfl:=oi_ H
  go_enter Tryz.func29,Tryz.ntmps29
  try go_wp2_with (first|((with_reducible refine gate_dst (N:=2) rfl ?_);(try (refine gate_guard (by rfl) ?_;dsimp only));refine be_ 2 (cs:=#[.string a9,.slice ag a7.length ah]) 36 ?_;intro af hg ay hbox hb;have z_:=bx0_ th_ hb hbox hg;clear HB;obtain ⟨HB,a5,an,ao⟩:=z_;clear hb hbox hg)|((with_reducible refine gate_dst (N:=3) rfl ?_);(try (refine gate_guard (by rfl) ?_;dsimp only));refine be_ 3 (cs:=#[.int .i64 aa,.int .i64 ab,.int .i64 ac,.int .i64 ae]) 38 ?_;intro a8 hg aw hbox hb;have z_:=bx1_ (kb_ a5) th_ hb hbox hg;clear a5 HB;obtain ⟨a5,HB,a6,ap,aq,ai,aj⟩:=z_;clear hb hbox hg))
  have z_:=dw2_ a5 a6 HB
  clear a5 a6 HB
  obtain ⟨a5,a6,HB⟩:=z_
  refine start_ (n:=16) (S:=fun w'=>w'.cell? ⟨af,0,none⟩=some (.string a9)∧w'.cell? ⟨af,1,none⟩=some (.slice ag a7.length ah)) (ds:=[]) bq_183 kr_ rfl rfl (bk2_ a5.out) (fun hHeld=>?_);refine with_tabW impl_isPlaced.tab1 impl_isPlaced.bits1 (fun HT_ HW_=>?_)
  generalize aw.drew=az at a5 a6 HB hHeld ⊢
  refine tr_ 0 5 bq_184 HT_ HW_ hHeld ?_
  refine one_ (i:=1) (N:=some 6) bq_185 rfl rfl (one_of HT_.out kr_) (by decide) (fun K hK=>?_)
  refine goes_ Tryz.func54 kr_ rfl #[.agg #[.string a9,.slice ag a7.length ah]] (by rfl) rfl rfl tq_0 ?_
  with_reducible refine (impl_MemoryOk.calls k a9 _ _ a7 false _ ?side1 ?side2 A3.out).mono ?_
  (case side1=>exact tq_4)
  (case side2=>exact ak.out)
  rintro e b0 ⟨rfl,hb⟩
  refine ⟨_,rfl,?_⟩
  have z_:=bw2_ (kb_ a5) (kb_ a6) th_ hb
  clear a5 a6 HB
  obtain ⟨a5,a6,HB⟩:=z_
  (try clear hb)
  refine hK.out _ _ (bk2_ a5.out) (fun hHeld=>?_)
  clear hK K
  refine nm_ (some 6) ?_
  refine yr_ 2 7 bq_186 HT_ ?_
  refine ur_ 3 8 bq_187 HT_ ?_
  refine ur_ 4 9 bq_188 HT_ ?_
  refine yr_ 5 10 bq_189 HT_ ?_
  refine yr_ 6 11 bq_190 HT_ ?_
  refine ur_ 7 12 bq_191 HT_ ?_
  refine ur_ 8 13 bq_192 HT_ ?_
  refine ur_ 9 14 bq_193 HT_ ?_
  refine ur_ 10 15 bq_194 HT_ ?_
  refine ur_ 11 16 bq_195 HT_ ?_
  refine ur_ 12 17 bq_196 HT_ ?_
  refine ur_ 13 18 bq_197 HT_ ?_
  refine yr_ 14 19 bq_198 HT_ ?_
  refine yr_ 15 4 bq_199 HT_ ?_
  refine done_ (done_of HT_.out kr_) ?_
  try go_wp2
  go_ret
  exact ⟨tq_1,th_⟩
 subst c4
 rw [if_pos rfl] at H
 obtain ⟨au,A5,H⟩:=bd_ H
 by_cases c6:au=true
 rotate_left
 ·replace c6:=Bool.eq_false_iff.mpr c6
  subst c6
  rw [if_neg nf_] at H
  obtain rfl:=oi_ H
  go_enter Tryz.func29,Tryz.ntmps29
  try go_wp2_with (first|((with_reducible refine gate_dst (N:=2) rfl ?_);(try (refine gate_guard (by rfl) ?_;dsimp only));refine be_ 2 (cs:=#[.string a9,.slice ag a7.length ah]) 36 ?_;intro af hg b1 hbox hb;have z_:=bx0_ th_ hb hbox hg;clear HB;obtain ⟨HB,a5,an,ao⟩:=z_;clear hb hbox hg)|((with_reducible refine gate_dst (N:=3) rfl ?_);(try (refine gate_guard (by rfl) ?_;dsimp only));refine be_ 3 (cs:=#[.int .i64 aa,.int .i64 ab,.int .i64 ac,.int .i64 ae]) 38 ?_;intro a8 hg ax hbox hb;have z_:=bx1_ (kb_ a5) th_ hb hbox hg;clear a5 HB;obtain ⟨a5,HB,a6,ap,aq,ai,aj⟩:=z_;clear hb hbox hg))
  have z_:=dw2_ a5 a6 HB
  clear a5 a6 HB
  obtain ⟨a5,a6,HB⟩:=z_
  refine start_ (n:=16) (S:=fun w'=>w'.cell? ⟨af,0,none⟩=some (.string a9)∧w'.cell? ⟨af,1,none⟩=some (.slice ag a7.length ah)∧w'.cell? ⟨a8,0,none⟩=some (.int .i64 aa)∧w'.cell? ⟨a8,1,none⟩=some (.int .i64 ab)∧w'.cell? ⟨a8,2,none⟩=some (.int .i64 ac)∧w'.cell? ⟨a8,3,none⟩=some (.int .i64 ae)) (ds:=[]) bq_183 kr_ rfl rfl (bc2_ a5.out (bk4_ a6.out)) (fun hHeld=>?_);refine with_tabW impl_isPlaced.tab1 impl_isPlaced.bits1 (fun HT_ HW_=>?_)
  generalize ax.drew=b2 at a5 a6 HB hHeld ⊢
  refine tr_ 0 5 bq_184 HT_ HW_ hHeld ?_
  refine one_ (i:=1) (N:=some 6) bq_185 rfl rfl (one_of HT_.out kr_) (by decide) (fun K hK=>?_)
  refine goes_ Tryz.func54 kr_ rfl #[.agg #[.string a9,.slice ag a7.length ah]] (by rfl) rfl rfl tq_0 ?_
  with_reducible refine (impl_MemoryOk.calls k a9 _ _ a7 true _ ?side1 ?side2 A3.out).mono ?_
  (case side1=>exact tq_4)
  (case side2=>exact ak.out)
  rintro e b3 ⟨rfl,hb⟩
  refine ⟨_,rfl,?_⟩
  have z_:=bw2_ (kb_ a5) (kb_ a6) th_ hb
  clear a5 a6 HB
  obtain ⟨a5,a6,HB⟩:=z_
  (try clear hb)
  refine hK.out _ _ (bc2_ a5.out (bk4_ a6.out)) (fun hHeld=>?_)
  clear hK K
  refine nm_ (some 6) ?_
  refine yr_ 2 7 bq_186 HT_ ?_
  refine tr_ 3 8 bq_187 HT_ HW_ hHeld ?_
  refine one_ (i:=4) (N:=some 9) bq_188 rfl rfl (one_of HT_.out kr_) (by decide) (fun K hK=>?_)
  refine goes_ Tryz.func55 kr_ rfl #[.agg #[.int .i64 aa,.int .i64 ab,.int .i64 ac,.int .i64 ae]] (by rfl) rfl rfl tq_0 ?_
  with_reducible refine (impl_GeoOk.calls aa ab ac ae false _ A5.out).mono ?_
  rintro e b4 ⟨rfl,hb⟩
  refine ⟨_,rfl,?_⟩
  have z_:=bw2_ (kb_ a5) (kb_ a6) th_ hb
  clear a5 a6 HB
  obtain ⟨a5,a6,HB⟩:=z_
  (try clear hb)
  refine hK.out _ _ (bc2_ a5.out (bk4_ a6.out)) (fun hHeld=>?_)
  clear hK K
  refine nm_ (some 9) ?_
  refine yr_ 5 10 bq_189 HT_ ?_
  refine yr_ 6 11 bq_190 HT_ ?_
  refine ur_ 7 12 bq_191 HT_ ?_
  refine ur_ 8 13 bq_192 HT_ ?_
  refine ur_ 9 14 bq_193 HT_ ?_
  refine ur_ 10 15 bq_194 HT_ ?_
  refine ur_ 11 16 bq_195 HT_ ?_
  refine ur_ 12 17 bq_196 HT_ ?_
  refine ur_ 13 18 bq_197 HT_ ?_
  refine yr_ 14 19 bq_198 HT_ ?_
  refine yr_ 15 4 bq_199 HT_ ?_
  refine done_ (done_of HT_.out kr_) ?_
  try go_wp2
  go_ret
  exact ⟨tq_1,th_⟩
 subst c6
 rw [if_pos rfl] at H
 obtain ⟨av,A7,H⟩:=bd_ H
 obtain rfl:=oi_ H
 go_enter Tryz.func29,Tryz.ntmps29
 try go_wp2_with (first|((with_reducible refine gate_dst (N:=2) rfl ?_);(try (refine gate_guard (by rfl) ?_;dsimp only));refine be_ 2 (cs:=#[.string a9,.slice ag a7.length ah]) 36 ?_;intro af hg w8 hbox hb;have z_:=bx0_ th_ hb hbox hg;clear HB;obtain ⟨HB,a5,an,ao⟩:=z_;clear hb hbox hg)|((with_reducible refine gate_dst (N:=3) rfl ?_);(try (refine gate_guard (by rfl) ?_;dsimp only));refine be_ 3 (cs:=#[.int .i64 aa,.int .i64 ab,.int .i64 ac,.int .i64 ae]) 38 ?_;intro a8 hg w9 hbox hb;have z_:=bx1_ (kb_ a5) th_ hb hbox hg;clear a5 HB;obtain ⟨a5,HB,a6,ap,aq,ai,aj⟩:=z_;clear hb hbox hg))
 have z_:=dw2_ a5 a6 HB
 clear a5 a6 HB
 obtain ⟨a5,a6,HB⟩:=z_
 refine start_ (n:=16) (S:=fun w'=>w'.cell? ⟨af,0,none⟩=some (.string a9)∧w'.cell? ⟨af,1,none⟩=some (.slice ag a7.length ah)∧w'.cell? ⟨a8,0,none⟩=some (.int .i64 aa)∧w'.cell? ⟨a8,1,none⟩=some (.int .i64 ab)∧w'.cell? ⟨a8,2,none⟩=some (.int .i64 ac)∧w'.cell? ⟨a8,3,none⟩=some (.int .i64 ae)) (ds:=[]) bq_183 kr_ rfl rfl (bc2_ a5.out (bk4_ a6.out)) (fun hHeld=>?_);refine with_tabW impl_isPlaced.tab1 impl_isPlaced.bits1 (fun HT_ HW_=>?_)
 generalize w9.drew=b5 at a5 a6 HB hHeld ⊢
 refine tr_ 0 5 bq_184 HT_ HW_ hHeld ?_
 refine one_ (i:=1) (N:=some 6) bq_185 rfl rfl (one_of HT_.out kr_) (by decide) (fun K hK=>?_)
 refine goes_ Tryz.func54 kr_ rfl #[.agg #[.string a9,.slice ag a7.length ah]] (by rfl) rfl rfl tq_0 ?_
 with_reducible refine (impl_MemoryOk.calls k a9 _ _ a7 true _ ?side1 ?side2 A3.out).mono ?_
 (case side1=>exact tq_4)
 (case side2=>exact ak.out)
 rintro e b6 ⟨rfl,hb⟩
 refine ⟨_,rfl,?_⟩
 have z_:=bw2_ (kb_ a5) (kb_ a6) th_ hb
 clear a5 a6 HB
 obtain ⟨a5,a6,HB⟩:=z_
 (try clear hb)
 refine hK.out _ _ (bc2_ a5.out (bk4_ a6.out)) (fun hHeld=>?_)
 clear hK K
 refine nm_ (some 6) ?_
 refine yr_ 2 7 bq_186 HT_ ?_
 refine tr_ 3 8 bq_187 HT_ HW_ hHeld ?_
 refine one_ (i:=4) (N:=some 9) bq_188 rfl rfl (one_of HT_.out kr_) (by decide) (fun K hK=>?_)
 refine goes_ Tryz.func55 kr_ rfl #[.agg #[.int .i64 aa,.int .i64 ab,.int .i64 ac,.int .i64 ae]] (by rfl) rfl rfl tq_0 ?_
 with_reducible refine (impl_GeoOk.calls aa ab ac ae true _ A5.out).mono ?_
 rintro e b7 ⟨rfl,hb⟩
 refine ⟨_,rfl,?_⟩
 have z_:=bw2_ (kb_ a5) (kb_ a6) th_ hb
 clear a5 a6 HB
 obtain ⟨a5,a6,HB⟩:=z_
 (try clear hb)
 refine hK.out _ _ (bc2_ a5.out (bk4_ a6.out)) (fun hHeld=>?_)
 clear hK K
 refine nm_ (some 9) ?_
 refine yr_ 5 10 bq_189 HT_ ?_
 refine yr_ 6 11 bq_190 HT_ ?_
 refine yr_ 7 12 bq_191 HT_ ?_
 refine tr_ 8 13 bq_192 HT_ HW_ hHeld ?_
 refine yr_ 9 14 bq_193 HT_ ?_
 refine yr_ 10 15 bq_194 HT_ ?_
 refine tr_ 11 16 bq_195 HT_ HW_ hHeld ?_
 refine one_ (i:=12) (N:=some 17) bq_196 rfl rfl (one_of HT_.out kr_) (by decide) (fun K hK=>?_)
 refine goes_ Tryz.func56 kr_ rfl #[.agg #[.int .i64 aa,.int .i64 ab,.int .i64 ac,.int .i64 ae]] (by rfl) rfl rfl tq_0 ?_
 with_reducible refine (impl_Geo_lines.calls aa ab ac ae av _ A7.out).mono ?_
 rintro e b8 ⟨rfl,hb⟩
 refine ⟨_,rfl,?_⟩
 have z_:=bw2_ (kb_ a5) (kb_ a6) th_ hb
 clear a5 a6 HB
 obtain ⟨a5,a6,HB⟩:=z_
 (try clear hb)
 refine hK.out _ _ (bc2_ a5.out (bk4_ a6.out)) (fun hHeld=>?_)
 clear hK K
 refine nm_ (some 17) ?_
 refine yr_ 13 18 bq_197 HT_ ?_
 refine yr_ 14 19 bq_198 HT_ ?_
 refine yr_ 15 4 bq_199 HT_ ?_
 refine done_ (done_of HT_.out kr_) ?_
 try go_wp2
 go_ret
 exact ⟨tq_1,th_⟩

def impl_isTenant.f (a5:Int) (a6:Int) (a7:Int) (a8:Int) (a1:Int):Option (Bool):=(impl_GeoOk.f a5 a6 a7 a8).bind fun a9=>(if a9=true then ((impl_within.f a1 0 (wrap64 (a5 - 1))).bind fun aa=>(some aa)) else (some false))
theorem impl_isTenant.calls (a6:Int) (a7:Int) (a8:Int) (a9:Int) (a1:Int) (r:Bool) (w:World) (h:impl_isTenant.f a6 a7 a8 a9 a1=some r) :
  Calls Tryz.prog 30 #[.agg #[.int .i64 a6,.int .i64 a7,.int .i64 a8,.int .i64 a9],.int .i64 a1] w fun e w'=>e=.returned (.bool r)∧Below w.heap.size w w':=by
 have hu38:=Tryz.underlying38
 have HB:=m_ (Below.refl w.heap.size w)
 unfold impl_isTenant.f at h
 have H:=h
 clear h
 obtain ⟨ae,A3,H⟩:=bd_ H
 by_cases c4:ae=true
 rotate_left
 ·replace c4:=Bool.eq_false_iff.mpr c4
  subst c4
  rw [if_neg nf_] at H
  obtain rfl:=oi_ H
  go_enter Tryz.func30,Tryz.ntmps30
  go_wp2_with (first|((with_reducible refine gate_dst (N:=2) rfl ?_);refine be_ 2 (cs:=#[.int .i64 a6,.int .i64 a7,.int .i64 a8,.int .i64 a9]) 38 ?_;intro aa hg ah hbox hb;have z_:=bx0_ th_ hb hbox hg;clear HB;obtain ⟨HB,a5,ab,ac⟩:=z_;clear hb hbox hg;have ag:=bb4_ a5.out)|((with_reducible refine gate_callee (f:=55) rfl ?_);refine goesL_ (some 6) rfl rfl Tryz.func55 kr_ rfl #[.agg #[.int .i64 a6,.int .i64 a7,.int .i64 a8,.int .i64 a9]] rfl tq_0 ?_;(with_reducible refine (impl_GeoOk.calls a6 a7 a8 a9 false _ A3.out).mono ?_);rintro e ai ⟨rfl,hb⟩;refine ⟨_,rfl,?_⟩;have z_:=bw1_ (kb_ a5) th_ hb;clear a5 HB;obtain ⟨a5,HB⟩:=z_;(try clear hb)))
  go_ret
  exact ⟨tq_1,th_⟩
 subst c4
 rw [if_pos rfl] at H
 obtain ⟨af,A5,H⟩:=bd_ H
 obtain rfl:=oi_ H
 go_enter Tryz.func30,Tryz.ntmps30
 go_wp2_with (first|((with_reducible refine gate_dst (N:=2) rfl ?_);refine be_ 2 (cs:=#[.int .i64 a6,.int .i64 a7,.int .i64 a8,.int .i64 a9]) 38 ?_;intro aa hg w6 hbox hb;have z_:=bx0_ th_ hb hbox hg;clear HB;obtain ⟨HB,a5,ab,ac⟩:=z_;clear hb hbox hg;have aj:=bb4_ a5.out)|((with_reducible refine gate_callee (f:=55) rfl ?_);refine goesL_ (some 6) rfl rfl Tryz.func55 kr_ rfl #[.agg #[.int .i64 a6,.int .i64 a7,.int .i64 a8,.int .i64 a9]] rfl tq_0 ?_;(with_reducible refine (impl_GeoOk.calls a6 a7 a8 a9 true _ A3.out).mono ?_);rintro e w8 ⟨rfl,hb⟩;refine ⟨_,rfl,?_⟩;have z_:=bw1_ (kb_ a5) th_ hb;clear a5 HB;obtain ⟨a5,HB⟩:=z_;(try clear hb);have ak:=bb4_ a5.out)|(go_at_call 57;(with_reducible refine (impl_within.calls a1 0 (wrap64 (a6 - 1)) af _ A5.out).mono ?_);rintro e w' ⟨rfl,⟨nd,rfl⟩⟩))
 go_ret
 exact ⟨tq_1,th_⟩

mutual
def impl_NumAt.j0:Nat→ByteArray→Int→Int→Bool→Option (Int × Bool)
 | 0,_,_,_,_=>none
 | k+1,x0,x1,x2,a5=>if a5=true then (some (0,false)) else (impl_NumAt.l0 k x0 x1 0 x2 0)
def impl_NumAt.l0:Nat→ByteArray→Int→Int→Int→Int→Option (Int × Bool)
 | 0,_,_,_,_,_=>none
 | k+1,x0,x1,x8,a6,a5=>if a5 < a6 then (if 0≤(wrap64 (x1+a5)) then (if (wrap64 (x1+a5)) < (x0.size:Int) then (impl_NumAt.l0 k x0 x1 (Go.bits .or .i64 (wrap64 (x8 * 256)) (wrap64 (bt x0 (wrap64 (x1+a5))))) a6 (wrap64 (a5+1))) else (none)) else (none)) else (some (x8,true))
end
def impl_NumAt.f (k:Nat) (a0:ByteArray) (a1:Int) (a2:Int):Option (Int × Bool):=if a1 < 0 then (impl_NumAt.j0 k a0 a1 a2 true) else ((impl_within.f a2 1 7).bind fun a5=>(if a5=true then (impl_NumAt.j0 k a0 a1 a2 (decide (a1 > (wrap64 ((a0.size:Int) - a2))))) else (impl_NumAt.j0 k a0 a1 a2 true)))
theorem impl_NumAt.calls (k:Nat) (a0:ByteArray) (a1:Int) (a2:Int) (r1:Int) (r2:Bool) (w:World) (h:impl_NumAt.f k a0 a1 a2=some (r1,r2)) :
  Calls Tryz.prog 80 #[.string a0,.int .i64 a1,.int .i64 a2] w fun e w'=>e=.returned (.tuple #[.int .i64 r1,.bool r2])∧Drawn0 w w':=by
 unfold impl_NumAt.f at h
 have H:=h
 clear h
 have a9:=m_ H
 clear H
 go_enter Tryz.func80,Tryz.ntmps80
 go_upto_region 1 with (fail)
 go_cut [24] (fun v24 wc=>∃ (kq:Nat) (a7:Bool),v24=.bool a7∧Aside0 (impl_NumAt.j0 kq a0 a1 a2 a7=some (r1,r2))∧Aside0 (kq≤k)∧Drawn0 w wc)
 case first =>
  have H:=a9.out
  clear a9
  by_cases c5:a1 < 0
  ·rw [if_pos c5] at H
   have a6:=de_ c5
   clear c5
   (first|rw [a6]|(simp only [i64_w,i32_w];rw [a6])|skip)
   have H':=m_ H
   clear H
   go_wp2
   go_meet
   case rel=>exact ⟨_,(true),tq_3,H',⟨tq_12⟩,tq_8⟩
  rw [if_neg c5] at H
  have a6:=df_ c5
  clear c5
  (first|rw [a6]|(simp only [i64_w,i32_w];rw [a6])|skip)
  obtain ⟨aa,A6,H⟩:=bd_ H
  by_cases c7:aa=true
  ·subst c7
   rw [if_pos rfl] at H
   have H':=m_ H
   clear H
   go_wp2_with (first|(go_at_call 57;(with_reducible refine (impl_within.calls a2 1 7 true _ A6.out).mono ?_);rintro e w' ⟨rfl,⟨nd,rfl⟩⟩))
   go_meet
   case rel=>exact ⟨_,(decide (a1 > (wrap64 ((a0.size:Int) - a2)))),tq_3,H',⟨tq_12⟩,tq_8⟩
  replace c7:=Bool.eq_false_iff.mpr c7
  subst c7
  rw [if_neg nf_] at H
  have H':=m_ H
  clear H
  go_wp2_with (first|(go_at_call 57;(with_reducible refine (impl_within.calls a2 1 7 false _ A6.out).mono ?_);rintro e w' ⟨rfl,⟨nd,rfl⟩⟩))
  go_meet
  case rel=>exact ⟨_,(true),tq_3,H',⟨tq_12⟩,tq_8⟩
 case rest =>
 clear a9
 try clear p2;try clear c5;try clear a6;try clear p6;try clear c7
 obtain ⟨kq,a7,rfl,HA,HJ3,⟨mc3,rfl⟩⟩:=hcut
 cases kq with
 | zero=>exact absurd HA.out (by simp [impl_NumAt.j0])
 | succ kj3 =>
 have H:=HA.out
 clear HA
 simp only [impl_NumAt.j0] at H
 by_cases c8:a7=true
 ·subst c8
  rw [if_pos rfl] at H
  simp only [Option.some.injEq,Prod.mk.injEq] at H
  obtain ⟨rfl,rfl⟩:=H
  go_wp2
  go_ret2
  exact ⟨tq_3,tq_8⟩
 replace c8:=Bool.eq_false_iff.mpr c8
 subst c8
 rw [if_neg nf_] at H
 have H':=m_ H
 clear H
 go_wp2
 go_loopg [8,26] kj3 (fun kq v8 v26 w'=>∃ (a8:Int) (a5:Int),v8=.int .i64 a8∧v26=.int .i64 a5∧Aside0 (impl_NumAt.l0 kq a0 a1 a8 a2 a5=some (r1,r2))∧Aside0 (kq≤kj3)∧Drawn0 w w')
 case atStart=>exact ⟨(0),(0),tq_3,tq_3,H',⟨Nat.le_refl _⟩,tq_8⟩
 case round =>
 clear H'
 try clear p2;try clear c3;try clear c5;try clear a6;try clear p6;try clear c7;try clear c8;try clear p2;try clear p6
 obtain ⟨a8,a5,rfl,rfl,HA,ac,⟨m2,rfl⟩⟩:=hrel
 cases gk with
 | zero=>exact absurd HA.out (by simp [impl_NumAt.l0])
 | succ k2 =>
 have H:=HA.out
 clear HA
 simp only [impl_NumAt.l0] at H
 by_cases c9:a5 < a2
 rotate_left
 ·rw [if_neg c9] at H
  have ab:=df_ c9
  clear c9
  simp only [Option.some.injEq,Prod.mk.injEq] at H
  obtain ⟨rfl,rfl⟩:=H
  go_wp2
  go_ret2
  exact ⟨tq_3,tq_8⟩
 rw [if_pos c9] at H
 have ab:=de_ c9
 clear c9
 obtain ⟨ji10,hji10⟩:∃ j_:Int,(wrap64 (a1+a5))=j_:=⟨_,rfl⟩
 replace H:(if 0≤(ji10) then (if (ji10) < (a0.size:Int) then (impl_NumAt.l0 k2 a0 a1 (Go.bits .or .i64 (wrap64 (a8 * 256)) (wrap64 (bt a0 (ji10)))) a2 (wrap64 (a5+1))) else (none)) else (none))=some (r1,r2):=by first|(rw [hji10] at H;exact H)|(simp only [hji10] at H ⊢;exact H)
 have hji10w:(IntKind.i64.wrap (a1+a5))=ji10:=(i64_w _).trans hji10
 obtain ⟨ae,H⟩:=fc_ H
 have af:=de_ ae
 clear ae
 obtain ⟨ag,H⟩:=fc_ H
 have ah:=de_ ag
 clear ag
 have H':=m_ H
 clear H
 have ai:0≤((ji10):Int):=od_ tq_2
 have aj:(ji10) < (a0.size:Int):=od_ tq_2
 have hx13:=bt_at a0 (ji10)
 replace ai:=eq_true ai
 replace aj:=eq_true aj
 go_wp2
 go_roundg k2
 case measure=>have:=HJ3.out;have:=ac.out;omega
 case rel=>exact ⟨(Go.bits .or .i64 (wrap64 (a8 * 256)) (wrap64 (bt a0 (ji10)))),(wrap64 (a5+1)),(by first|rfl|(simp;done)|(simp only [← hji10] <;> (first|rfl|simp))|(simp [*];done)),tq_3,H',⟨(by have:=HJ3.out;have:=ac.out;omega)⟩,tq_8⟩

def strings_Repeat.f (a0:ByteArray) (a1:Int):Option (ByteArray):=if 0≤a1∧a1≤9223372036854775807∧a0.size * a1.toNat≤140737488355328 then some ⟨(Lib.repeatL a0.data.toList a1.toNat).toArray⟩ else none
theorem strings_Repeat.calls (a0:ByteArray) (a1:Int) (r:ByteArray) (w:World) (h:strings_Repeat.f a0 a1=some r) :
  Calls Tryz.prog 117 #[.string a0,.int .i64 a1] w fun e w'=>e=.returned (.string r)∧Below w.heap.size w w':=by
 unfold strings_Repeat.f at h
 split at h
 case isFalse=>cases h
 case isTrue hc =>
  obtain ⟨h0,h1,h2⟩:=hc
  obtain ⟨c,rfl⟩:=Int.eq_ofNat_of_zero_le h0
  obtain rfl:=oi_ h
  exact Tryz.strings_Repeat a0 c w (by omega) h2

def impl_padded.f (a0:ByteArray) (a1:Int):Option (ByteArray):=(strings_Repeat.f (⟨#[0]⟩:ByteArray) (mx 0 (wrap64 (a1 - (a0.size:Int))))).bind fun a5=>(if a0.size+a5.size≤9223372036854775807 then (some (a0++a5)) else (none))
theorem impl_padded.calls (a0:ByteArray) (a1:Int) (r:ByteArray) (w:World) (h:impl_padded.f a0 a1=some r) :
  Calls Tryz.prog 103 #[.string a0,.int .i64 a1] w fun e w'=>e=.returned (.string r)∧Below w.heap.size w w':=by
 have HB:=m_ (Below.refl w.heap.size w)
 unfold impl_padded.f at h
 have H:=h
 clear h
 obtain ⟨ji3,hji3⟩:∃ j_:Int,(mx 0 (wrap64 (a1 - (a0.size:Int))))=j_:=⟨_,rfl⟩
 replace H:((strings_Repeat.f (⟨#[0]⟩:ByteArray) (ji3)).bind fun a5=>(if a0.size+a5.size≤9223372036854775807 then (some (a0++a5)) else (none)))=some r:=by first|(rw [hji3] at H;exact H)|(simp only [hji3] at H ⊢;exact H)
 (try (have hji3l:0≤ji3:=by (rw [← hji3];unfold mx;(repeat' split) <;> omega)))
 (try (have hji3m:0≤ji3:=by omega))
 have hji3_:(if 0 < (wrap64 (a1 - (a0.size:Int))) then (wrap64 (a1 - (a0.size:Int))) else 0)=ji3:=hji3
 obtain ⟨a5,A4,H⟩:=bd_ H
 obtain ⟨c5,H⟩:=fc_ H
 have a6:=eq_true c5
 have a7:=de_ c5
 try have a8:(9223372036854775807 < a0.size+a5.size)=False:=eq_false (Nat.not_lt.2 c5)
 obtain rfl:=oi_ H
 go_enter Tryz.func103,Tryz.ntmps103
 go_wp2_with (first|((with_reducible refine gate_callee (f:=117) rfl ?_);refine goesL_ (some 11) rfl rfl Tryz.func117 kr_ rfl #[.string (⟨#[0]⟩:ByteArray),.int .i64 ji3] rfl (by (try simp only [List.map_toArray,List.map_cons,List.map_nil]);first|done|(simp only [hji3];rfl)|rfl|(simp only [List.length_drop,List.length_take];rfl)) ?_;(with_reducible refine (strings_Repeat.calls (⟨#[0]⟩:ByteArray) ji3 a5 _ A4.out).mono ?_);rintro e w6 ⟨rfl,hb⟩;refine ⟨_,rfl,?_⟩;have n0_:=m_ (below_step th_ hb);clear HB;have HB:=n0_;clear n0_;(try clear hb)))
 go_ret
 exact ⟨(by first|rfl|(simp [errW_none,errW_some] <;> rfl)|(simp only [← hji3];first|rfl|(simp [errW_none,errW_some] <;> rfl))|(simp [*,errW_none,errW_some] <;> rfl)),th_⟩

def impl_WordText.f (a0:ByteArray):Option (ByteArray):=if (a0.size:Int) > 8 then (some (⟨#[]⟩:ByteArray)) else ((impl_padded.f a0 8).bind fun a5=>(some a5))
theorem impl_WordText.calls (a0:ByteArray) (r:ByteArray) (w:World) (h:impl_WordText.f a0=some r) :
  Calls Tryz.prog 98 #[.string a0] w fun e w'=>e=.returned (.string r)∧Below w.heap.size w w':=by
 have HB:=m_ (Below.refl w.heap.size w)
 unfold impl_WordText.f at h
 have H:=h
 clear h
 by_cases c2:(a0.size:Int) > 8
 ·rw [if_pos c2] at H
  have a5:=de_ c2
  have a6:decide (8 < a0.size)=true:=de_ (by omega)
  clear c2
  obtain rfl:=oi_ H
  go_enter Tryz.func98,Tryz.ntmps98
  go_wp2
  go_ret
  exact ⟨tq_1,th_⟩
 rw [if_neg c2] at H
 have a5:=df_ c2
 have a6:decide (8 < a0.size)=false:=df_ (by omega)
 clear c2
 obtain ⟨a7,A3,H⟩:=bd_ H
 obtain rfl:=oi_ H
 go_enter Tryz.func98,Tryz.ntmps98
 go_wp2_with (first|((with_reducible refine gate_callee (f:=103) rfl ?_);refine goesL_ (some 7) rfl rfl Tryz.func103 kr_ rfl #[.string a0,.int .i64 8] rfl tq_0 ?_;(with_reducible refine (impl_padded.calls a0 8 a7 _ A3.out).mono ?_);rintro e w4 ⟨rfl,hb⟩;refine ⟨_,rfl,?_⟩;have n0_:=m_ (below_step th_ hb);clear HB;have HB:=n0_;clear n0_;(try clear hb)))
 go_ret
 exact ⟨tq_1,th_⟩

mutual
def impl_NumText.j0:Nat→Int→Int→Bool→Option (ByteArray)
 | 0,_,_,_=>none
 | k+1,x0,x1,a6=>if a6=true then (some (⟨#[]⟩:ByteArray)) else (if 0≤x1 then (if (x1:Int).toNat≤281474976710656 then ((some (List.replicate (x1:Int).toNat 0:List Int)).bind fun a5=>(impl_NumText.l0 k x0 x1 a5 (a5.length:Int) 0)) else (none)) else (none))
def impl_NumText.l0:Nat→Int→Int→List Int→Int→Int→Option (ByteArray)
 | 0,_,_,_,_,_=>none
 | k+1,x0,x1,x5,a6,a5=>if a5 < a6 then (if 0≤(wrap64 (8 * (wrap64 ((wrap64 (x1 - 1)) - a5)))) then (if 0≤a5 then (if a5 < (x5.length:Int) then (impl_NumText.l0 k x0 x1 (x5.set (a5:Int).toNat ((shr .i64 x0 (wrap64 (8 * (wrap64 ((wrap64 (x1 - 1)) - a5))))) % 256)) a6 (wrap64 (a5+1))) else (none)) else (none)) else (none)) else (some (strOfNums x5))
end
def impl_NumText.f (k:Nat) (a0:Int) (a1:Int):Option (ByteArray):=if a0 < 0 then (impl_NumText.j0 k a0 a1 true) else ((impl_within.f a1 1 7).bind fun a5=>(if a5=true then (if 0≤(wrap64 (8 * a1)) then (impl_NumText.j0 k a0 a1 (decide (a0 ≥ (shl .i64 1 (wrap64 (8 * a1)))))) else (none)) else (impl_NumText.j0 k a0 a1 true)))
theorem impl_NumText.calls (k:Nat) (a0:Int) (a1:Int) (r:ByteArray) (w:World) (h:impl_NumText.f k a0 a1=some r) :
  Calls Tryz.prog 99 #[.int .i64 a0,.int .i64 a1] w fun e w'=>e=.returned (.string r)∧Below w.heap.size w w':=by
 have HB:=m_ (Below.refl w.heap.size w)
 unfold impl_NumText.f at h
 have H:=h
 clear h
 have b0:=m_ H
 clear H
 go_enter Tryz.func99,Tryz.ntmps99
 go_upto_region 1 with (fail)
 go_cut [20] (fun v20 wc=>∃ (kq:Nat) (ab:Bool),v20=.bool ab∧Aside0 (impl_NumText.j0 kq a0 a1 ab=some r)∧Aside0 (kq≤k)∧Aside0 (Below w.heap.size w wc))
 case first =>
  have H:=b0.out
  clear b0
  by_cases c4:a0 < 0
  ·rw [if_pos c4] at H
   have a9:=de_ c4
   clear c4
   (first|rw [a9]|(simp only [i64_w,i32_w];rw [a9])|skip)
   have H':=m_ H
   clear H
   go_wp2
   go_meet
   case rel=>exact ⟨_,(true),tq_3,H',⟨tq_12⟩,⟨th_⟩⟩
  rw [if_neg c4] at H
  have a9:=df_ c4
  clear c4
  (first|rw [a9]|(simp only [i64_w,i32_w];rw [a9])|skip)
  obtain ⟨b1,A5,H⟩:=bd_ H
  by_cases c6:b1=true
  rotate_left
  ·replace c6:=Bool.eq_false_iff.mpr c6
   subst c6
   rw [if_neg nf_] at H
   have H':=m_ H
   clear H
   go_wp2_with (first|(go_at_call 57;(with_reducible refine (impl_within.calls a1 1 7 false _ A5.out).mono ?_);rintro e w' ⟨rfl,⟨nd,rfl⟩⟩))
   go_meet
   case rel=>exact ⟨_,(true),tq_3,H',⟨tq_12⟩,⟨th_⟩⟩
  subst c6
  rw [if_pos rfl] at H
  obtain ⟨ji7,hji7⟩:∃ j_:Int,(wrap64 (8 * a1))=j_:=⟨_,rfl⟩
  replace H:(if 0≤(ji7) then (impl_NumText.j0 k a0 a1 (decide (a0 ≥ (shl .i64 1 (ji7))))) else (none))=some r:=by first|(rw [hji7] at H;exact H)|(simp only [hji7] at H ⊢;exact H)
  (try rw [hji7] at A5)
  have hji7w:(IntKind.i64.wrap (8 * a1))=ji7:=(i64_w _).trans hji7
  obtain ⟨c8,H⟩:=fc_ H
  have ak:=eq_true c8
  have al:=de_ c8
  clear c8
  obtain ⟨ji9,hji9⟩:∃ j_:Int,(shl .i64 1 (ji7))=j_:=⟨_,rfl⟩
  replace H:(impl_NumText.j0 k a0 a1 (decide (a0 ≥ (ji9))))=some r:=by first|(rw [hji9] at H;exact H)|(simp only [hji9] at H ⊢;exact H)
  (try rw [hji9] at A5)
  have hji9_:(IntKind.i64.wrap (1 * 2 ^ min (ji7).toNat 64))=ji9:=hji9
  have hji9z:(ji7)≤64→(IntKind.i64.wrap (1 * 2 ^ (ji7).toNat))=ji9:=shl_small hji9
  have hji9u:(IntKind.i64.wrap (2 ^ min (ji7).toNat 64))=ji9:=by have h_:=hji9_;rw [Int.one_mul] at h_;exact h_
  have hji9v:(ji7)≤64→(IntKind.i64.wrap (2 ^ (ji7).toNat))=ji9:=fun hle_=>by have h_:=hji9z hle_;rw [Int.one_mul] at h_;exact h_
  have hji9y:(wrap64 (1 * 2 ^ min (ji7).toNat 64))=ji9:=(i64_w _).symm.trans hji9_
  have hji9x:(ji7)≤64→(wrap64 (1 * 2 ^ (ji7).toNat))=ji9:=fun h_=>(i64_w _).symm.trans (hji9z h_)
  have H':=m_ H
  clear H
  go_wp2_with (first|(go_at_call 57;(with_reducible refine (impl_within.calls a1 1 7 true _ A5.out).mono ?_);rintro e w' ⟨rfl,⟨nd,rfl⟩⟩))
  go_meet
  case rel=>exact ⟨_,(decide (a0 ≥ (ji9))),(by first|rfl|(simp;done)|(simp only [← hji9] <;> (first|rfl|simp))|(simp [*];done)),H',⟨tq_12⟩,⟨th_⟩⟩
 case rest =>
 clear b0
 try clear p2;try clear c4;try clear a9;try clear c6;try clear p6;try clear c8;try clear ak;try clear al;try clear c9
 obtain ⟨kq,ab,rfl,HA,HJ2,HB⟩:=hcut
 cases kq with
 | zero=>exact absurd HA.out (by simp [impl_NumText.j0])
 | succ kj2 =>
 have H:=HA.out
 clear HA
 simp only [impl_NumText.j0] at H
 by_cases am:ab=true
 ·subst am
  rw [if_pos rfl] at H
  obtain rfl:=oi_ H
  go_wp2
  go_ret
  exact ⟨tq_1,th_⟩
 replace am:=Bool.eq_false_iff.mpr am
 subst am
 rw [if_neg nf_] at H
 obtain ⟨ay,H⟩:=fc_ H
 have an:=eq_true ay
 have ao:=de_ ay
 clear ay
 obtain ⟨az,H⟩:=fc_ H
 have ap:=eq_true az
 have aq:=de_ az
 clear az
 obtain ⟨aa,af,H⟩:=bs_ H
 have H':=m_ H
 clear H
 go_wp2_with (first|((with_reducible refine gate_dst (N:=22) rfl ?_);refine Kd.R_make (Kd.int .u8) _ 5 rfl (N:=22) rfl 101 _ _ rfl a1 rfl rfl Tryz.underlying101 (.int .u8 0) 1 info5 rfl (by decide) (by omega) 0 (ok:=fun _=>True) (okp:=fun _=>True) rfl (fun _ hk=>hk) trivial (od_ tq_2) (Nat.le_trans (Nat.mul_le_mul_right _ (od_ tq_2:a1.toNat≤281474976710656)) (by omega)) (Below.refl _ _) (Nat.le_refl _) ?_;intro v409 bn ho14 hb hg_ hnew_;clear hg_ hnew_;(first|rw [← af.out] at ho14|(simp only [Int.reduceToNat] at ho14;rw [← af.out] at ho14));have z_:=p_ (Kd.R_lower ho14 (below_size th_)) <| a_ (below_step th_ hb);clear HB;obtain ⟨ag,HB⟩:=z_;clear hb ho14;obtain ⟨b2,ar,b3⟩:=Kd.R_slice ag.out;subst b3))
 go_loopg [25] kj2 (fun kq v25 w'=>∃ (a6:List Int) (a5:Int),v25=.int .i64 a5∧Aside0 (impl_NumText.l0 kq a0 a1 a6 (aa.length:Int) a5=some r)∧Aside0 (kq≤kj2)∧Aside0 (Kd.R (Kd.int .u8) 5 w' w.heap.size (fun _=>True) (.slice b2 aa.length ar) a6)∧Aside0 (Below w.heap.size w w'))
 case atStart=>exact ⟨(aa),(0),tq_3,H',⟨Nat.le_refl _⟩,⟨(raR_ ag)⟩,⟨th_⟩⟩
 case round =>
 clear H'
 try clear c1;try clear p2;try clear c4;try clear a9;try clear c6;try clear p6;try clear c8;try clear ak;try clear al;try clear c9;try clear am;try clear ay;try clear an;try clear ao;try clear az;try clear ap;try clear aq;try clear p2;try clear p6
 obtain ⟨a6,a5,rfl,HA,bc,a8,HB⟩:=hrel
 have a7:=(Kd.R_reads' a8.out).1
 rw [a7] at a8
 (try simp only [a7])
 cases gk with
 | zero=>exact absurd HA.out (by simp [impl_NumText.l0])
 | succ k2 =>
 have H:=HA.out
 clear HA
 simp only [impl_NumText.l0] at H
 by_cases aj:a5 < (aa.length:Int)
 rotate_left
 ·rw [if_neg aj] at H
  have ac:=df_ aj
  (try simp only [a7] at ac)
  clear aj
  obtain rfl:=oi_ H
  have hcv25:=own_string (P:=Tryz.prog) Tryz.underlying101 Tryz.underlying5 Tryz.underlying9 (Kd.own_of_R a8.out)
  go_wp2
  go_ret
  exact ⟨tq_1,th_⟩
 rw [if_pos aj] at H
 have ac:=de_ aj
 (try simp only [a7] at ac)
 clear aj
 obtain ⟨ji17,hji17⟩:∃ j_:Int,(wrap64 (8 * (wrap64 ((wrap64 (a1 - 1)) - a5))))=j_:=⟨_,rfl⟩
 replace H:(if 0≤(ji17) then (if 0≤a5 then (if a5 < (a6.length:Int) then (impl_NumText.l0 k2 a0 a1 (a6.set (a5:Int).toNat ((shr .i64 a0 (ji17)) % 256)) (aa.length:Int) (wrap64 (a5+1))) else (none)) else (none)) else (none))=some r:=by first|(rw [hji17] at H;exact H)|(simp only [hji17] at H ⊢;exact H)
 have hji17w:(IntKind.i64.wrap (8 * (wrap64 ((wrap64 (a1 - 1)) - a5))))=ji17:=(i64_w _).trans hji17
 obtain ⟨b4,H⟩:=fc_ H
 have bd:=eq_true b4
 have be:=de_ b4
 clear b4
 obtain ⟨ji19,hji19⟩:∃ j_:Int,(shr .i64 a0 (ji17))=j_:=⟨_,rfl⟩
 replace H:(if 0≤a5 then (if a5 < (a6.length:Int) then (impl_NumText.l0 k2 a0 a1 (a6.set (a5:Int).toNat ((ji19) % 256)) (aa.length:Int) (wrap64 (a5+1))) else (none)) else (none))=some r:=by first|(rw [hji19] at H;exact H)|(simp only [hji19] at H ⊢;exact H)
 have hji19_:(a0 / 2 ^ min (ji17).toNat 64)=ji19:=hji19
 have hji19z:(ji17)≤64→(a0 / 2 ^ (ji17).toNat)=ji19:=shr_small hji19
 obtain ⟨bf,H⟩:=fc_ H
 have bg:=de_ bf
 clear bf
 obtain ⟨bh,H⟩:=fc_ H
 have bi:=de_ bh
 clear bh
 obtain ⟨ah,ae⟩:∃ y_:List Int,y_=(a6.set (a5:Int).toNat ((ji19) % 256)):=⟨_,rfl⟩
 replace H:(impl_NumText.l0 k2 a0 a1 ah (aa.length:Int) (wrap64 (a5+1)))=some r:=rh_ ae H
 have au:=m_ ae
 clear ae
 have H':=m_ H
 clear H
 have b5:0≤(a5:Int):=od_ tq_2
 have b6:(a5:Int) < ((a6.length:Int):Int):=od_ tq_2
 obtain ⟨ai,bj,av,aw,b7,bl,ax⟩:=Kd.R_form a8.out (by omega)
 (first|cases av|(injection av with ea_ en_ ec_;(first|subst ea_|(injection ea_ with ea_;subst ea_));subst ec_;clear en_))
 have b8:=m_ aw
 have bm:=m_ ax
 clear aw b7 ax
 obtain ⟨b9,ba⟩:=Kd.R_celln 0 a8.out (a5:Int) b5 b6
 replace b5:=eq_true b5
 replace b6:=eq_true b6
 have HP23:=Kd.R_putg a8.out (a5:Int) ((ji19) % 256)
 go_wp2_with (first|((with_reducible refine gate_store (t:=5) (p:=38) rfl ?_);refine store_event (t:=5) (p:=38) (v:=?vo_w24) (w1:=(wr.setCell ⟨ai,(a5:Int).toNat,none⟩ (.int .u8 ((ji19) % 256)))) ?hg ?ho ?hn ?hr ?_;(case ho=>rfl);(case hg=>rfl);(case hn=>rfl);(case hr=>first|(go_simp;done)|(go_simp;rfl));intro bb hw;have hg:wr.grownBy bb (some ai):=(by rw [hw];exact HP23.2);have hp_:Kd.R (Kd.int .u8) 5 bb w.heap.size (fun _=>True) (.slice (some ⟨ai,0,none⟩) a6.length ar) ah:=(by rw [hw,au.out];exact HP23.1);clear HP23;have z_:=p_ (hp_) <| a_ ((by rw [hw];exact below_set (HB.out) b8.out:Below w.heap.size w bb));clear a8 HB;obtain ⟨a8,HB⟩:=z_;clear hg hw hp_))
 (try simp only [← a7])
 go_roundg k2
 case measure=>have:=HJ2.out;have:=bc.out;omega
 case rel=>exact ⟨(ah),(wrap64 (a5+1)),tq_3,H',⟨(by have:=HJ2.out;have:=bc.out;omega)⟩,⟨(by (try simp only [a7]);(with_reducible repeat (first|apply Kd.R_alloc|apply Kd.R_drewN|apply Kd.R_drew));exact a8.out)⟩,⟨th_⟩⟩

def impl_SerialWord.f (k:Nat) (a0:Int):Option (ByteArray):=(impl_within.f a0 0 16777215).bind fun a5=>(if a5=true then ((impl_NumText.f k a0 3).bind fun a6=>((impl_WordText.f a6).bind fun a7=>(some a7))) else (some (⟨#[]⟩:ByteArray)))
theorem impl_SerialWord.calls (k:Nat) (a0:Int) (r:ByteArray) (w:World) (h:impl_SerialWord.f k a0=some r) :
  Calls Tryz.prog 81 #[.int .i64 a0] w fun e w'=>e=.returned (.string r)∧Below w.heap.size w w':=by
 have HB:=m_ (Below.refl w.heap.size w)
 unfold impl_SerialWord.f at h
 have H:=h
 clear h
 obtain ⟨a6,A2,H⟩:=bd_ H
 have a8:=m_ H
 clear H
 go_enter Tryz.func81,Tryz.ntmps81
 go_upto_if 5 with (first|((with_reducible refine gate_callee (f:=57) rfl ?_);refine goesL_ (some 4) rfl rfl Tryz.func57 kr_ rfl #[.int .i64 a0,.int .i64 0,.int .i64 16777215] rfl tq_0 ?_;(with_reducible refine (impl_within.calls a0 0 16777215 a6 _ A2.out).mono ?_);rintro e w' ⟨rfl,⟨nd,rfl⟩⟩;refine ⟨_,rfl,?_⟩))
 (try simp only [Act.put,List.setIfInBounds_toArray,List.set_cons_zero,List.set_cons_succ])
 have H:=a8.out
 clear a8
 by_cases c4:a6=true
 rotate_left
 ·replace c4:=Bool.eq_false_iff.mpr c4
  subst c4
  rw [if_neg nf_] at H
  obtain rfl:=oi_ H
  go_wp2
  go_ret
  exact ⟨tq_1,th_⟩
 subst c4
 rw [if_pos rfl] at H
 obtain ⟨a5,A5,H⟩:=bd_ H
 obtain ⟨a7,A6,H⟩:=bd_ H
 obtain rfl:=oi_ H
 go_wp2_with (first|((with_reducible refine gate_callee (f:=99) rfl ?_);refine goesL_ (some 7) rfl rfl Tryz.func99 kr_ rfl #[.int .i64 a0,.int .i64 3] rfl tq_0 ?_;(with_reducible refine (impl_NumText.calls k a0 3 a5 _ A5.out).mono ?_);rintro e w7 ⟨rfl,hb⟩;refine ⟨_,rfl,?_⟩;have n0_:=m_ (below_step th_ hb);clear HB;have HB:=n0_;clear n0_;(try clear hb))|((with_reducible refine gate_callee (f:=98) rfl ?_);refine goesL_ (some 8) rfl rfl Tryz.func98 kr_ rfl #[.string a5] rfl tq_0 ?_;(with_reducible refine (impl_WordText.calls a5 a7 _ A6.out).mono ?_);rintro e w8 ⟨rfl,hb⟩;refine ⟨_,rfl,?_⟩;have n0_:=m_ (below_step th_ hb);clear HB;have HB:=n0_;clear n0_;(try clear hb)))
 go_ret
 exact ⟨tq_1,th_⟩

def impl_readSerial.f (k:Nat) (a0:ByteArray):Option (Int × Bool):=(impl_NumAt.f k a0 0 3).bind fun a5=>((impl_SerialWord.f k a5.1).bind fun a6=>(some (a5.1,(a6.toList == a0.toList))))
theorem impl_readSerial.calls (k:Nat) (a0:ByteArray) (r1:Int) (r2:Bool) (w:World) (h:impl_readSerial.f k a0=some (r1,r2)) :
  Calls Tryz.prog 58 #[.string a0] w fun e w'=>e=.returned (.tuple #[.int .i64 r1,.bool r2])∧Below w.heap.size w w':=by
 have HB:=m_ (Below.refl w.heap.size w)
 unfold impl_readSerial.f at h
 have H:=h
 clear h
 obtain ⟨⟨a5,a6⟩,A2,H⟩:=bd_ H
 try dsimp -simprocs only at H
 obtain ⟨a7,A3,H⟩:=bd_ H
 simp only [Option.some.injEq,Prod.mk.injEq] at H
 obtain ⟨rfl,rfl⟩:=H
 go_enter Tryz.func58,Tryz.ntmps58
 go_wp2_with (first|((with_reducible refine gate_callee (f:=80) rfl ?_);refine goesL_ (some 8) rfl rfl Tryz.func80 kr_ rfl #[.string a0,.int .i64 0,.int .i64 3] rfl tq_0 ?_;(with_reducible refine (impl_NumAt.calls k a0 0 3 a5 a6 _ A2.out).mono ?_);rintro e w' ⟨rfl,⟨nd,rfl⟩⟩;refine ⟨_,rfl,?_⟩)|((with_reducible refine gate_callee (f:=81) rfl ?_);refine goesL_ (some 13) rfl rfl Tryz.func81 kr_ rfl #[.int .i64 a5] rfl tq_0 ?_;(with_reducible refine (impl_SerialWord.calls k a5 a7 _ A3.out).mono ?_);rintro e w4 ⟨rfl,hb⟩;refine ⟨_,rfl,?_⟩;have n0_:=m_ (below_step th_ hb);clear HB;have HB:=n0_;clear n0_;(try clear hb)))
 go_ret2
 exact ⟨tq_1,th_⟩

def cmp_isNaN_int.f (a0:Int):Option (Bool):=some (a0 != a0)
theorem cmp_isNaN_int.calls (a0:Int) (r:Bool) (w:World) (h:cmp_isNaN_int.f a0=some r) :
  Calls Tryz.prog 126 #[.int .i64 a0] w fun e w'=>e=.returned (.bool r)∧Drawn0 w w':=by
 unfold cmp_isNaN_int.f at h
 have H:=h
 clear h
 obtain rfl:=oi_ H
 go_enter Tryz.func126,Tryz.ntmps126
 go_wp2
 go_ret
 exact ⟨tq_3,tq_8⟩

def cmp_Compare_int.f (a0:Int) (a1:Int):Option (Int):=(cmp_isNaN_int.f a0).bind fun a6=>((cmp_isNaN_int.f a1).bind fun a5=>(if a6=true then (if a5=true then (some 0) else (some (-1))) else (if a5=true then (some 1) else (if a0 < a1 then (some (-1)) else (if a0 > a1 then (some 1) else (some 0))))))
theorem cmp_Compare_int.calls (a0:Int) (a1:Int) (r:Int) (w:World) (h:cmp_Compare_int.f a0 a1=some r) :
  Calls Tryz.prog 114 #[.int .i64 a0,.int .i64 a1] w fun e w'=>e=.returned (.int .i64 r)∧Drawn0 w w':=by
 unfold cmp_Compare_int.f at h
 have H:=h
 clear h
 obtain ⟨a8,A3,H⟩:=bd_ H
 obtain ⟨a6,A4,H⟩:=bd_ H
 have aa:=m_ H
 clear H
 go_enter Tryz.func114,Tryz.ntmps114
 go_upto_if 11 with (first|((with_reducible refine gate_callee (f:=126) rfl ?_);refine goesL_ (some 8) rfl rfl Tryz.func126 kr_ rfl #[.int .i64 a0] rfl tq_0 ?_;(with_reducible refine (cmp_isNaN_int.calls a0 a8 _ A3.out).mono ?_);rintro e w' ⟨rfl,⟨nd,rfl⟩⟩;refine ⟨_,rfl,?_⟩)|((with_reducible refine gate_callee (f:=126) rfl ?_);refine goesL_ (some 10) rfl rfl Tryz.func126 kr_ rfl #[.int .i64 a1] rfl tq_0 ?_;(with_reducible refine (cmp_isNaN_int.calls a1 a6 _ A4.out).mono ?_);rintro e w' ⟨rfl,⟨nd,rfl⟩⟩;refine ⟨_,rfl,?_⟩))
 (try simp only [Act.put,List.setIfInBounds_toArray,List.set_cons_zero,List.set_cons_succ])
 have H:=aa.out
 clear aa
 by_cases c6:a8=true
 ·subst c6
  rw [if_pos rfl] at H
  by_cases c7:a6=true
  ·subst c7
   rw [if_pos rfl] at H
   obtain rfl:=oi_ H
   go_wp2
   go_ret
   exact ⟨tq_3,tq_8⟩
  replace c7:=Bool.eq_false_iff.mpr c7
  subst c7
  rw [if_neg nf_] at H
  obtain rfl:=oi_ H
  go_wp2
  go_ret
  exact ⟨tq_3,tq_8⟩
 replace c6:=Bool.eq_false_iff.mpr c6
 subst c6
 rw [if_neg nf_] at H
 by_cases c8:a6=true
 ·subst c8
  rw [if_pos rfl] at H
  obtain rfl:=oi_ H
  go_wp2
  go_ret
  exact ⟨tq_3,tq_8⟩
 replace c8:=Bool.eq_false_iff.mpr c8
 subst c8
 rw [if_neg nf_] at H
 by_cases c9:a0 < a1
 ·rw [if_pos c9] at H
  have a5:=de_ c9
  clear c9
  (first|rw [a5]|(simp only [i64_w,i32_w];rw [a5])|skip)
  obtain rfl:=oi_ H
  go_wp2
  go_ret
  exact ⟨tq_3,tq_8⟩
 rw [if_neg c9] at H
 have a5:=df_ c9
 clear c9
 (first|rw [a5]|(simp only [i64_w,i32_w];rw [a5])|skip)
 by_cases a7:a0 > a1
 ·rw [if_pos a7] at H
  have a9:=de_ a7
  clear a7
  obtain rfl:=oi_ H
  go_wp2
  go_ret
  exact ⟨tq_3,tq_8⟩
 rw [if_neg a7] at H
 have a9:=df_ a7
 clear a7
 obtain rfl:=oi_ H
 go_wp2
 go_ret
 exact ⟨tq_3,tq_8⟩

def impl_Memory_findCell_1.f (a5:Int) (a7:ByteArray) (a8:Bool) (a1:Int):Option (Int):=(cmp_Compare_int.f a5 a1).bind fun a6=>(some a6)
theorem impl_Memory_findCell_1.calls (a5:Int) (a6:ByteArray) (a7:Bool) (a1:Int) (r:Int) (w:World) (h:impl_Memory_findCell_1.f a5 a6 a7 a1=some r) :
  Calls Tryz.prog 113 #[.agg #[.int .i64 a5,.string a6,.bool a7],.int .i64 a1] w fun e w'=>e=.returned (.int .i64 r)∧Below w.heap.size w w':=by
 have hu78:=Tryz.underlying78
 have HB:=m_ (Below.refl w.heap.size w)
 unfold impl_Memory_findCell_1.f at h
 have H:=h
 clear h
 obtain ⟨a9,A3,H⟩:=bd_ H
 obtain rfl:=oi_ H
 go_enter Tryz.func113,Tryz.ntmps113
 go_wp2_with (first|((with_reducible refine gate_dst (N:=2) rfl ?_);refine be_ 2 (cs:=#[.int .i64 a5,.string a6,.bool a7]) 78 ?_;intro aa hg w4 hbox hb;have z_:=bx0_ th_ hb hbox hg;clear HB;obtain ⟨HB,a8,ab,ac⟩:=z_;clear hb hbox hg;have ae:=bb3_ a8.out)|((with_reducible refine gate_callee (f:=114) rfl ?_);refine goesL_ (some 8) rfl rfl Tryz.func114 kr_ rfl #[.int .i64 a5,.int .i64 a1] rfl tq_0 ?_;(with_reducible refine (cmp_Compare_int.calls a5 a1 a9 _ A3.out).mono ?_);rintro e w' ⟨rfl,⟨nd,rfl⟩⟩;refine ⟨_,rfl,?_⟩))
 go_ret
 exact ⟨tq_1,th_⟩

def slices_BinarySearchFunc_int.l0:Nat→List (S78)→Int→Int→Int→Int→Option (Int × Bool)
 | 0,_,_,_,_,_=>none
 | k+1,x0,x1,x8,x9,a5=>if x9 < a5 then (if 0≤(wrap64 ((IntKind.u64.wrap (wrap64 (x9+a5))) / 2)) then (if (wrap64 ((IntKind.u64.wrap (wrap64 (x9+a5))) / 2)) < (x0.length:Int) then ((impl_Memory_findCell_1.f ((rd_T78 x0 (wrap64 ((IntKind.u64.wrap (wrap64 (x9+a5))) / 2))).f0) ((rd_T78 x0 (wrap64 ((IntKind.u64.wrap (wrap64 (x9+a5))) / 2))).f1) ((rd_T78 x0 (wrap64 ((IntKind.u64.wrap (wrap64 (x9+a5))) / 2))).f2) x1).bind fun a6=>(if a6 < 0 then (slices_BinarySearchFunc_int.l0 k x0 x1 x8 (wrap64 ((wrap64 ((IntKind.u64.wrap (wrap64 (x9+a5))) / 2))+1)) a5) else (slices_BinarySearchFunc_int.l0 k x0 x1 x8 x9 (wrap64 ((IntKind.u64.wrap (wrap64 (x9+a5))) / 2))))) else (none)) else (none)) else (if x9 < x8 then (if 0≤x9 then (if x9 < (x0.length:Int) then ((impl_Memory_findCell_1.f ((rd_T78 x0 x9).f0) ((rd_T78 x0 x9).f1) ((rd_T78 x0 x9).f2) x1).bind fun a7=>(some (x9,(a7 == 0)))) else (none)) else (none)) else (some (x9,false)))
def slices_BinarySearchFunc_int.f (k:Nat) (l0:List (S78)) (a1:Int) (a2:Unit):Option (Int × Bool):=slices_BinarySearchFunc_int.l0 k l0 a1 (l0.length:Int) 0 (l0.length:Int)
theorem slices_BinarySearchFunc_int.calls (k:Nat) (A0:Option Addr) (c0:Nat) (l0:List (S78)) (a1:Int) (a2:Unit) (r1:Int) (r2:Bool) (w:World) (hr0:Kd.C k78 w A0 l0.length l0) (hc0:l0.length≤c0) (h:slices_BinarySearchFunc_int.f k l0 a1 a2=some (r1,r2)) :
  Calls Tryz.prog 112 #[.slice A0 l0.length c0,.int .i64 a1,.func (.func 113) #[] #[]] w fun e w'=>e=.returned (.tuple #[.int .i64 r1,.bool r2])∧Below w.heap.size w w':=by
 have hu78:=Tryz.underlying78
 have HR0:=m_ hr0
 have b3:=m_ hc0
 clear hr0 hc0
 have HB:=m_ (Below.refl w.heap.size w)
 unfold slices_BinarySearchFunc_int.f at h
 have H:=h
 clear h
 have H':=m_ H
 clear H
 go_enter Tryz.func112,Tryz.ntmps112
 go_wp2
 go_loopg [9,10] k (fun kq v9 v10 w'=>∃ (a5:Int) (a6:Int),v9=.int .i64 a5∧v10=.int .i64 a6∧Aside0 (slices_BinarySearchFunc_int.l0 kq l0 a1 (l0.length:Int) a5 a6=some (r1,r2))∧Aside0 (kq≤k)∧Aside0 (Below w.heap.size w w'))
 case atStart=>exact ⟨(0),((l0.length:Int)),tq_3,tq_3,H',⟨Nat.le_refl _⟩,⟨th_⟩⟩
 case round =>
 clear H'
 try clear c1;try clear p2
 obtain ⟨a5,a6,rfl,rfl,HA,HK1,HB⟩:=hrel
 cases gk with
 | zero=>exact absurd HA.out (by simp [slices_BinarySearchFunc_int.l0])
 | succ k1 =>
 have H:=HA.out
 clear HA
 simp only [slices_BinarySearchFunc_int.l0] at H
 by_cases c4:a5 < a6
 rotate_left
 ·rw [if_neg c4] at H
  have an:=df_ c4
  clear c4
  by_cases ak:a5 < (l0.length:Int)
  rotate_left
  ·rw [if_neg ak] at H
   have am:=df_ ak
   clear ak
   simp only [Option.some.injEq,Prod.mk.injEq] at H
   obtain ⟨rfl,rfl⟩:=H
   go_wp2
   go_ret2
   exact ⟨tq_1,th_⟩
  rw [if_pos ak] at H
  have am:=de_ ak
  clear ak
  obtain ⟨ar,H⟩:=fc_ H
  have au:=de_ ar
  clear ar
  obtain ⟨av,H⟩:=fc_ H
  have aw:=de_ av
  clear av
  obtain ⟨ao,b0,H⟩:=bd_ H
  simp only [Option.some.injEq,Prod.mk.injEq] at H
  obtain ⟨rfl,rfl⟩:=H
  have ag:0≤(a5:Int):=od_ tq_2
  have ah:a5 < (l0.length:Int):=od_ tq_2
  obtain ⟨ax,ap,ab,ac,ae⟩:=at_T78 HR0.out a5 ag ah
  cases ap
  replace ab:=hx_ HB.out ab
  replace ac:=hx_ HB.out ac
  replace ae:=hx_ HB.out ae
  replace ag:=eq_true ag
  replace ah:=eq_true ah
  go_wp2_with (first|(go_at_call 113;(with_reducible refine (impl_Memory_findCell_1.calls ((rd_T78 l0 a5).f0) ((rd_T78 l0 a5).f1) ((rd_T78 l0 a5).f2) a1 ao _ b0.out).mono ?_);rintro e b4 ⟨rfl,hb⟩;have n0_:=m_ (below_step th_ hb);clear HB;have HB:=n0_;clear n0_;(try clear hb)))
  go_ret2
  exact ⟨tq_1,th_⟩
 rw [if_pos c4] at H
 have an:=de_ c4
 clear c4
 obtain ⟨ji5,hji5⟩:∃ j_:Int,(wrap64 ((IntKind.u64.wrap (wrap64 (a5+a6))) / 2))=j_:=⟨_,rfl⟩
 replace H:(if 0≤(ji5) then (if (ji5) < (l0.length:Int) then ((impl_Memory_findCell_1.f ((rd_T78 l0 (ji5)).f0) ((rd_T78 l0 (ji5)).f1) ((rd_T78 l0 (ji5)).f2) a1).bind fun af=>(if af < 0 then (slices_BinarySearchFunc_int.l0 k1 l0 a1 (l0.length:Int) (wrap64 ((ji5)+1)) a6) else (slices_BinarySearchFunc_int.l0 k1 l0 a1 (l0.length:Int) a5 ji5))) else (none)) else (none))=some (r1,r2):=by first|(rw [hji5] at H;exact H)|(simp only [hji5] at H ⊢;exact H)
 have hji5w:(IntKind.i64.wrap ((IntKind.u64.wrap (wrap64 (a5+a6))) / 2))=ji5:=(i64_w _).trans hji5
 obtain ⟨c6,H⟩:=fc_ H
 have b1:=de_ c6
 clear c6
 obtain ⟨c7,H⟩:=fc_ H
 have b2:=de_ c7
 clear c7
 obtain ⟨af,A8,H⟩:=bd_ H
 have ay:=m_ H
 clear H
 have ai:0≤((ji5):Int):=od_ tq_2
 have aj:(ji5) < (l0.length:Int):=od_ tq_2
 obtain ⟨az,aq,a7,a8,a9⟩:=at_T78 HR0.out (ji5) ai aj
 cases aq
 replace a7:=hx_ HB.out a7
 replace a8:=hx_ HB.out a8
 replace a9:=hx_ HB.out a9
 replace ai:=eq_true ai
 replace aj:=eq_true aj
 go_upto_if 31 with (first|(go_at_call 113;(with_reducible refine (impl_Memory_findCell_1.calls ((rd_T78 l0 (ji5)).f0) ((rd_T78 l0 (ji5)).f1) ((rd_T78 l0 (ji5)).f2) a1 af _ A8.out).mono ?_);rintro e b5 ⟨rfl,hb⟩;have n0_:=m_ (below_step th_ hb);clear HB;have HB:=n0_;clear n0_;(try clear hb)))
 (try simp only [Act.put,List.setIfInBounds_toArray,List.set_cons_zero,List.set_cons_succ])
 (try clear a7 a8 a9)
 have H:=ay.out
 clear ay
 by_cases al:af < 0
 rotate_left
 ·rw [if_neg al] at H
  have aa:=df_ al
  clear al
  (first|rw [aa]|(simp only [i64_w,i32_w];rw [aa])|skip)
  have H':=m_ H
  clear H
  go_wp2
  go_roundg k1
  case measure=>have:=HK1.out;omega
  case rel=>exact ⟨(a5),(ji5),tq_3,(by first|rfl|(simp;done)|(simp only [← hji5] <;> (first|rfl|simp))|(simp [*];done)),H',⟨tq_14⟩,⟨th_⟩⟩
 rw [if_pos al] at H
 have aa:=de_ al
 clear al
 (first|rw [aa]|(simp only [i64_w,i32_w];rw [aa])|skip)
 have H':=m_ H
 clear H
 go_wp2
 go_roundg k1
 case measure=>have:=HK1.out;omega
 case rel=>exact ⟨(wrap64 ((ji5)+1)),(a6),(by first|rfl|(simp;done)|(simp only [← hji5] <;> (first|rfl|simp))|(simp [*];done)),tq_3,H',⟨tq_14⟩,⟨th_⟩⟩

def impl_Memory_findCell.f (k:Nat) (a7:ByteArray) (a6:List (S78)) (a1:Int):Option (Int × Bool):=(slices_BinarySearchFunc_int.f k a6 a1 ()).bind fun a5=>(some (a5.1,a5.2))
theorem impl_Memory_findCell.calls (k:Nat) (ab:ByteArray) (a7:Option Addr) (a8:Nat) (a5:List (S78)) (a1:Int) (r1:Int) (r2:Bool) (w:World) (a9:Kd.C k78 w a7 a5.length a5) (aa:a5.length≤a8) (h:impl_Memory_findCell.f k ab a5 a1=some (r1,r2)) :
  Calls Tryz.prog 100 #[.agg #[.string ab,.slice a7 a5.length a8],.int .i64 a1] w fun e w'=>e=.returned (.tuple #[.int .i64 r1,.bool r2])∧Below w.heap.size w w':=by
 have hu36:=Tryz.underlying36
 have HR0_1:=m_ a9
 have ac:=m_ aa
 clear a9 aa
 have HB:=m_ (Below.refl w.heap.size w)
 unfold impl_Memory_findCell.f at h
 have H:=h
 clear h
 obtain ⟨⟨ae,af⟩,A3,H⟩:=bd_ H
 try dsimp -simprocs only at H
 simp only [Option.some.injEq,Prod.mk.injEq] at H
 obtain ⟨rfl,rfl⟩:=H
 go_enter Tryz.func100,Tryz.ntmps100
 go_wp2_with (first|((with_reducible refine gate_dst (N:=2) rfl ?_);refine be_ 2 (cs:=#[.string ab,.slice a7 a5.length a8]) 36 ?_;intro ag hg w4 hbox hb;have z_:=bx0_ th_ hb hbox hg;clear HB;obtain ⟨HB,a6,ah,ai⟩:=z_;clear hb hbox hg;have aj:=bb2_ a6.out)|((with_reducible refine gate_callee (f:=112) rfl ?_);refine goesL_ (some 9) rfl rfl Tryz.func112 kr_ rfl #[.slice a7 a5.length a8,.int .i64 a1,.func (.func 113) #[] #[]] rfl tq_0 ?_;(with_reducible refine (slices_BinarySearchFunc_int.calls k _ _ a5 a1 () ae af _ ?side1 ?side2 A3.out).mono ?_);(case side1=>exact tq_4);(case side2=>exact ac.out);rintro e w6 ⟨rfl,hb⟩;refine ⟨_,rfl,?_⟩;have z_:=bw1_ (kb_ a6) th_ hb;clear a6 HB;obtain ⟨a6,HB⟩:=z_;(try clear hb)))
 go_ret2
 exact ⟨tq_1,th_⟩

def impl_Memory_line.f (k:Nat) (a6:ByteArray) (a7:List (S78)) (a1:Int):Option (ByteArray):=(impl_Memory_findCell.f k a6 a7 a1).bind fun a5=>(if a5.2=true then (if 0≤a5.1 then (if a5.1 < (a7.length:Int) then (some ((rd_T78 a7 a5.1).f1)) else (none)) else (none)) else (if 0≤(wrap64 (a1 * 16)) then (if (wrap64 (a1 * 16))≤(wrap64 ((wrap64 (a1+1)) * 16)) then (if (wrap64 ((wrap64 (a1+1)) * 16))≤(a6.size:Int) then ((some (a6.extract ((wrap64 (a1 * 16)):Int).toNat ((wrap64 ((wrap64 (a1+1)) * 16)):Int).toNat:ByteArray)).bind fun a8=>(some a8)) else (none)) else (none)) else (none)))
theorem impl_Memory_line.calls (k:Nat) (a7:ByteArray) (ab:Option Addr) (ac:Nat) (a6:List (S78)) (a1:Int) (r:ByteArray) (w:World) (af:Kd.C k78 w ab a6.length a6) (ag:a6.length≤ac) (h:impl_Memory_line.f k a7 a6 a1=some r) :
  Calls Tryz.prog 82 #[.agg #[.string a7,.slice ab a6.length ac],.int .i64 a1] w fun e w'=>e=.returned (.string r)∧Below w.heap.size w w':=by
 have hu36:=Tryz.underlying36
 have HR0_1:=m_ af
 have al:=m_ ag
 clear af ag
 have HB:=m_ (Below.refl w.heap.size w)
 unfold impl_Memory_line.f at h
 have H:=h
 clear h
 obtain ⟨⟨ae,am⟩,A3,H⟩:=bd_ H
 try dsimp -simprocs only at H
 have au:=m_ H
 clear H
 go_enter Tryz.func82,Tryz.ntmps82
 go_upto_if 13 with (first|((with_reducible refine gate_dst (N:=2) rfl ?_);refine be_ 2 (cs:=#[.string a7,.slice ab a6.length ac]) 36 ?_;intro av hg w5 hbox hb;have z_:=bx0_ th_ hb hbox hg;clear HB;obtain ⟨HB,a5,aw,ax⟩:=z_;clear hb hbox hg;have b7:=bb2_ a5.out)|((with_reducible refine gate_callee (f:=100) rfl ?_);refine goesL_ (some 10) rfl rfl Tryz.func100 kr_ rfl #[.agg #[.string a7,.slice ab a6.length ac],.int .i64 a1] rfl tq_0 ?_;(with_reducible refine (impl_Memory_findCell.calls k a7 _ _ a6 a1 ae am _ ?side1 ?side2 A3.out).mono ?_);(case side1=>exact tq_4);(case side2=>exact al.out);rintro e w7 ⟨rfl,hb⟩;refine ⟨_,rfl,?_⟩;have z_:=bw1_ (kb_ a5) th_ hb;clear a5 HB;obtain ⟨a5,HB⟩:=z_;(try clear hb)))
 (try simp only [Act.put,List.setIfInBounds_toArray,List.set_cons_zero,List.set_cons_succ])
 (try clear b7)
 have H:=au.out
 clear au
 by_cases c8:am=true
 ·subst c8
  rw [if_pos rfl] at H
  obtain ⟨c9,H⟩:=fc_ H
  have an:=de_ c9
  clear c9
  (first|rw [an]|(simp only [i64_w,i32_w];rw [an])|skip)
  obtain ⟨ay,H⟩:=fc_ H
  have az:=de_ ay
  clear ay
  obtain rfl:=oi_ H
  have b8:=bb2_ a5.out
  have ai:0≤(ae:Int):=od_ tq_2
  have aj:ae < (a6.length:Int):=od_ tq_2
  obtain ⟨b0,ao,a8,a9,aa⟩:=at_T78 HR0_1.out ae ai aj
  cases ao
  replace a8:=hx_ HB.out a8
  replace a9:=hx_ HB.out a9
  replace aa:=hx_ HB.out aa
  replace ai:=eq_true ai
  replace aj:=eq_true aj
  go_wp2
  go_ret
  exact ⟨tq_1,th_⟩
 replace c8:=Bool.eq_false_iff.mpr c8
 subst c8
 rw [if_neg nf_] at H
 obtain ⟨ji12,hji12⟩:∃ j_:Int,(wrap64 (a1 * 16))=j_:=⟨_,rfl⟩
 replace H:(if 0≤(ji12) then (if (ji12)≤(wrap64 ((wrap64 (a1+1)) * 16)) then (if (wrap64 ((wrap64 (a1+1)) * 16))≤(a7.size:Int) then ((some (a7.extract ((ji12):Int).toNat ((wrap64 ((wrap64 (a1+1)) * 16)):Int).toNat:ByteArray)).bind fun ak=>(some ak)) else (none)) else (none)) else (none))=some r:=by first|(rw [hji12] at H;exact H)|(simp only [hji12] at H ⊢;exact H)
 have hji12w:(IntKind.i64.wrap (a1 * 16))=ji12:=(i64_w _).trans hji12
 obtain ⟨ap,H⟩:=fc_ H
 have b1:=eq_true ap
 have b2:=de_ ap
 clear ap
 obtain ⟨aq,H⟩:=fc_ H
 have b3:=eq_true aq
 have b4:=de_ aq
 clear aq
 obtain ⟨ar,H⟩:=fc_ H
 have b5:=eq_true ar
 have b6:=de_ ar
 clear ar
 obtain ⟨ak,ah⟩:∃ y_:ByteArray,(a7.extract ((ji12):Int).toNat ((wrap64 ((wrap64 (a1+1)) * 16)):Int).toNat)=y_:=⟨_,rfl⟩
 replace H:(some ak)=some r:=by rw [← ah];exact (Option.bind_some _ _).symm.trans H
 (try simp only [Int.toNat_natCast] at ah)
 obtain rfl:=oi_ H
 have b9:=bb2_ a5.out
 go_wp2
 go_ret
 exact ⟨(by first|rfl|(simp [errW_none,errW_some] <;> rfl)|(simp only [← hji12];first|rfl|(simp [errW_none,errW_some] <;> rfl))|(simp [*,errW_none,errW_some] <;> rfl)),th_⟩

def impl_Memory_word.f (k:Nat) (a6:ByteArray) (a7:List (S78)) (a1:Int):Option (ByteArray):=(impl_Memory_line.f k a6 a7 (wrap64 (Int.tdiv a1 2))).bind fun a5=>(if 0≤(wrap64 ((Int.tmod a1 2) * 8)) then (if (wrap64 ((Int.tmod a1 2) * 8))≤(wrap64 ((wrap64 ((Int.tmod a1 2) * 8))+8)) then (if (wrap64 ((wrap64 ((Int.tmod a1 2) * 8))+8))≤(a5.size:Int) then ((some (a5.extract ((wrap64 ((Int.tmod a1 2) * 8)):Int).toNat ((wrap64 ((wrap64 ((Int.tmod a1 2) * 8))+8)):Int).toNat:ByteArray)).bind fun a8=>(some a8)) else (none)) else (none)) else (none))
theorem impl_Memory_word.calls (k:Nat) (a7:ByteArray) (a8:Option Addr) (a9:Nat) (a5:List (S78)) (a1:Int) (r:ByteArray) (w:World) (ab:Kd.C k78 w a8 a5.length a5) (ac:a5.length≤a9) (h:impl_Memory_word.f k a7 a5 a1=some r) :
  Calls Tryz.prog 59 #[.agg #[.string a7,.slice a8 a5.length a9],.int .i64 a1] w fun e w'=>e=.returned (.string r)∧Below w.heap.size w w':=by
 have hu36:=Tryz.underlying36
 have HR0_1:=m_ ab
 have ag:=m_ ac
 clear ab ac
 have HB:=m_ (Below.refl w.heap.size w)
 unfold impl_Memory_word.f at h
 have H:=h
 clear h
 obtain ⟨aa,A3,H⟩:=bd_ H
 obtain ⟨ji4,hji4⟩:∃ j_:Int,(wrap64 ((Int.tmod a1 2) * 8))=j_:=⟨_,rfl⟩
 replace H:(if 0≤(ji4) then (if (ji4)≤(wrap64 ((ji4)+8)) then (if (wrap64 ((ji4)+8))≤(aa.size:Int) then ((some (aa.extract ((ji4):Int).toNat ((wrap64 ((ji4)+8)):Int).toNat:ByteArray)).bind fun af=>(some af)) else (none)) else (none)) else (none))=some r:=by first|(rw [hji4] at H;exact H)|(simp only [hji4] at H ⊢;exact H)
 (try rw [hji4] at A3)
 have hji4w:(IntKind.i64.wrap ((Int.tmod a1 2) * 8))=ji4:=(i64_w _).trans hji4
 obtain ⟨c5,H⟩:=fc_ H
 have ak:=eq_true c5
 have al:=de_ c5
 clear c5
 obtain ⟨c6,H⟩:=fc_ H
 have am:=eq_true c6
 have an:=de_ c6
 clear c6
 obtain ⟨c7,H⟩:=fc_ H
 have ao:=eq_true c7
 have ap:=de_ c7
 clear c7
 obtain ⟨af,ae⟩:∃ y_:ByteArray,(aa.extract ((ji4):Int).toNat ((wrap64 ((ji4)+8)):Int).toNat)=y_:=⟨_,rfl⟩
 replace H:(some af)=some r:=by rw [← ae];exact (Option.bind_some _ _).symm.trans H
 (try simp only [Int.toNat_natCast] at ae)
 obtain rfl:=oi_ H
 go_enter Tryz.func59,Tryz.ntmps59
 go_wp2_with (first|((with_reducible refine gate_dst (N:=2) rfl ?_);refine be_ 2 (cs:=#[.string a7,.slice a8 a5.length a9]) 36 ?_;intro ah hg w8 hbox hb;have z_:=bx0_ th_ hb hbox hg;clear HB;obtain ⟨HB,a6,ai,aj⟩:=z_;clear hb hbox hg;have aq:=bb2_ a6.out)|((with_reducible refine gate_callee (f:=82) rfl ?_);refine goesL_ (some 12) rfl rfl Tryz.func82 kr_ rfl #[.agg #[.string a7,.slice a8 a5.length a9],.int .i64 (wrap64 (Int.tdiv a1 2))] rfl tq_0 ?_;(with_reducible refine (impl_Memory_line.calls k a7 _ _ a5 (wrap64 (Int.tdiv a1 2)) aa _ ?side1 ?side2 A3.out).mono ?_);(case side1=>exact tq_4);(case side2=>exact ag.out);rintro e ar ⟨rfl,hb⟩;refine ⟨_,rfl,?_⟩;have z_:=bw1_ (kb_ a6) th_ hb;clear a6 HB;obtain ⟨a6,HB⟩:=z_;(try clear hb)))
 go_ret
 exact ⟨tq_91,th_⟩

def impl_inPart.f (a5:Int) (a6:Int) (a7:Int) (a8:Int) (a1:Int) (a2:Bool) (a3:Int):Option (Int):=(impl_isTenant.f a5 a6 a7 a8 a1).bind fun a9=>(if a9=true then (if a2=true then ((impl_Geo_partWords.f a5 a6 a7 a8).bind fun aa=>(some (wrap64 ((wrap64 (a1 * aa))+a3)))) else (some (-1))) else (some (-1)))
theorem impl_inPart.calls (a6:Int) (a7:Int) (a8:Int) (a9:Int) (a1:Int) (a2:Bool) (a3:Int) (r:Int) (w:World) (h:impl_inPart.f a6 a7 a8 a9 a1 a2 a3=some r) :
  Calls Tryz.prog 83 #[.agg #[.int .i64 a6,.int .i64 a7,.int .i64 a8,.int .i64 a9],.int .i64 a1,.bool a2,.int .i64 a3] w fun e w'=>e=.returned (.int .i64 r)∧Below w.heap.size w w':=by
 have hu38:=Tryz.underlying38
 have HB:=m_ (Below.refl w.heap.size w)
 unfold impl_inPart.f at h
 have H:=h
 clear h
 obtain ⟨af,A5,H⟩:=bd_ H
 by_cases c6:af=true
 rotate_left
 ·replace c6:=Bool.eq_false_iff.mpr c6
  subst c6
  rw [if_neg nf_] at H
  obtain rfl:=oi_ H
  go_enter Tryz.func83,Tryz.ntmps83
  go_wp2_with (first|((with_reducible refine gate_dst (N:=4) rfl ?_);refine be_ 4 (cs:=#[.int .i64 a6,.int .i64 a7,.int .i64 a8,.int .i64 a9]) 38 ?_;intro aa hg am hbox hb;have z_:=bx0_ th_ hb hbox hg;clear HB;obtain ⟨HB,a5,ab,ac⟩:=z_;clear hb hbox hg;have ai:=bb4_ a5.out)|((with_reducible refine gate_callee (f:=30) rfl ?_);refine goesL_ (some 11) rfl rfl Tryz.func30 kr_ rfl #[.agg #[.int .i64 a6,.int .i64 a7,.int .i64 a8,.int .i64 a9],.int .i64 a1] rfl tq_0 ?_;(with_reducible refine (impl_isTenant.calls a6 a7 a8 a9 a1 false _ A5.out).mono ?_);rintro e an ⟨rfl,hb⟩;refine ⟨_,rfl,?_⟩;have z_:=bw1_ (kb_ a5) th_ hb;clear a5 HB;obtain ⟨a5,HB⟩:=z_;(try clear hb)))
  go_ret
  exact ⟨tq_1,th_⟩
 subst c6
 rw [if_pos rfl] at H
 have ah:=m_ H
 clear H
 go_enter Tryz.func83,Tryz.ntmps83
 go_upto_if 16 with (first|((with_reducible refine gate_dst (N:=4) rfl ?_);refine be_ 4 (cs:=#[.int .i64 a6,.int .i64 a7,.int .i64 a8,.int .i64 a9]) 38 ?_;intro aa hg w8 hbox hb;have z_:=bx0_ th_ hb hbox hg;clear HB;obtain ⟨HB,a5,ab,ac⟩:=z_;clear hb hbox hg;have aj:=bb4_ a5.out)|((with_reducible refine gate_callee (f:=30) rfl ?_);refine goesL_ (some 11) rfl rfl Tryz.func30 kr_ rfl #[.agg #[.int .i64 a6,.int .i64 a7,.int .i64 a8,.int .i64 a9],.int .i64 a1] rfl tq_0 ?_;(with_reducible refine (impl_isTenant.calls a6 a7 a8 a9 a1 true _ A5.out).mono ?_);rintro e ao ⟨rfl,hb⟩;refine ⟨_,rfl,?_⟩;have z_:=bw1_ (kb_ a5) th_ hb;clear a5 HB;obtain ⟨a5,HB⟩:=z_;(try clear hb);(try clear hb2)))
 (try simp only [Act.put,List.setIfInBounds_toArray,List.set_cons_zero,List.set_cons_succ])
 (try clear aj)
 have H:=ah.out
 clear ah
 by_cases ae:a2=true
 rotate_left
 ·replace ae:=Bool.eq_false_iff.mpr ae
  subst ae
  rw [if_neg nf_] at H
  obtain rfl:=oi_ H
  go_wp2
  go_ret
  exact ⟨tq_1,th_⟩
 subst ae
 rw [if_pos rfl] at H
 obtain ⟨ag,ak,H⟩:=bd_ H
 obtain rfl:=oi_ H
 have al:=bb4_ a5.out
 go_wp2_with (first|((with_reducible refine gate_callee (f:=79) rfl ?_);refine goesL_ (some 19) rfl rfl Tryz.func79 kr_ rfl #[.agg #[.int .i64 a6,.int .i64 a7,.int .i64 a8,.int .i64 a9]] rfl tq_0 ?_;(with_reducible refine (impl_Geo_partWords.calls a6 a7 a8 a9 ag _ ak.out).mono ?_);rintro e ap ⟨rfl,hb⟩;refine ⟨_,rfl,?_⟩;have z_:=bw1_ (kb_ a5) th_ hb;clear a5 HB;obtain ⟨a5,HB⟩:=z_;(try clear hb)))
 go_ret
 exact ⟨tq_1,th_⟩

def impl_SerialAt.f (a5:Int) (a6:Int) (a7:Int) (a8:Int) (a1:Int):Option (Int):=(impl_inPart.f a5 a6 a7 a8 a1 true 2).bind fun a9=>(some a9)
theorem impl_SerialAt.calls (a6:Int) (a7:Int) (a8:Int) (a9:Int) (a1:Int) (r:Int) (w:World) (h:impl_SerialAt.f a6 a7 a8 a9 a1=some r) :
  Calls Tryz.prog 60 #[.agg #[.int .i64 a6,.int .i64 a7,.int .i64 a8,.int .i64 a9],.int .i64 a1] w fun e w'=>e=.returned (.int .i64 r)∧Below w.heap.size w w':=by
 have hu38:=Tryz.underlying38
 have HB:=m_ (Below.refl w.heap.size w)
 unfold impl_SerialAt.f at h
 have H:=h
 clear h
 obtain ⟨aa,A3,H⟩:=bd_ H
 obtain rfl:=oi_ H
 go_enter Tryz.func60,Tryz.ntmps60
 go_wp2_with (first|((with_reducible refine gate_dst (N:=2) rfl ?_);refine be_ 2 (cs:=#[.int .i64 a6,.int .i64 a7,.int .i64 a8,.int .i64 a9]) 38 ?_;intro ab hg w4 hbox hb;have z_:=bx0_ th_ hb hbox hg;clear HB;obtain ⟨HB,a5,ac,ae⟩:=z_;clear hb hbox hg;have af:=bb4_ a5.out)|((with_reducible refine gate_callee (f:=83) rfl ?_);refine goesL_ (some 7) rfl rfl Tryz.func83 kr_ rfl #[.agg #[.int .i64 a6,.int .i64 a7,.int .i64 a8,.int .i64 a9],.int .i64 a1,.bool true,.int .i64 2] rfl tq_0 ?_;(with_reducible refine (impl_inPart.calls a6 a7 a8 a9 a1 true 2 aa _ A3.out).mono ?_);rintro e w6 ⟨rfl,hb⟩;refine ⟨_,rfl,?_⟩;have z_:=bw1_ (kb_ a5) th_ hb;clear a5 HB;obtain ⟨a5,HB⟩:=z_;(try clear hb)))
 go_ret
 exact ⟨tq_1,th_⟩

def slices_Equal_string.l0:Nat→List ByteArray→List ByteArray→Int→Int→Option (Bool)
 | 0,_,_,_,_=>none
 | k+1,x0,x1,a6,a5=>if a5 < a6 then (if 0≤a5 then (if a5 < (x0.length:Int) then (if a5 < (x1.length:Int) then (if (rdOf ByteArray.empty x0 a5).toList=(rdOf ByteArray.empty x1 a5).toList then (slices_Equal_string.l0 k x0 x1 a6 (wrap64 (a5+1))) else (some false)) else (none)) else (none)) else (none)) else (some true)
def slices_Equal_string.f (k:Nat) (l0:List ByteArray) (l1:List ByteArray):Option (Bool):=if (l0.length:Int)=(l1.length:Int) then (slices_Equal_string.l0 k l0 l1 (l0.length:Int) 0) else (some false)
theorem slices_Equal_string.calls (k:Nat) (A0:Option Addr) (c0:Nat) (l0:List ByteArray) (A1:Option Addr) (c1:Nat) (l1:List ByteArray) (r:Bool) (w:World) (hr0:Kd.C Kd.string w A0 l0.length l0) (hc0:l0.length≤c0) (hr1:Kd.C Kd.string w A1 l1.length l1) (hc1:l1.length≤c1) (h:slices_Equal_string.f k l0 l1=some r) :
  Calls Tryz.prog 84 #[.slice A0 l0.length c0,.slice A1 l1.length c1] w fun e w'=>e=.returned (.bool r)∧Drawn0 w w':=by
 have HR0:=m_ hr0
 have au:=m_ hc0
 clear hr0 hc0
 have ao:=m_ hr1
 have av:=m_ hc1
 clear hr1 hc1
 unfold slices_Equal_string.f at h
 have H:=h
 clear h
 by_cases c3:(l0.length:Int)=(l1.length:Int)
 rotate_left
 ·rw [if_neg c3] at H
  have ae:=qc_ c3
  have af:=qd_ c3
  have ag:(l0.length == l1.length)=false:=by first|simpa using c3|(simp at c3 ⊢;omega)
  obtain rfl:=oi_ H
  go_enter Tryz.func84,Tryz.ntmps84
  go_wp2
  repeat (go_quiet (fail);try go_wp2)
  go_ret
  exact ⟨tq_3,tq_8⟩
 rw [if_pos c3] at H
 have ae:=qa_ c3
 have af:=qb_ c3
 have ag:(l0.length == l1.length)=true:=by first|simpa using c3|(simp at c3 ⊢;omega)
 clear c3
 have H':=m_ H
 clear H
 go_enter Tryz.func84,Tryz.ntmps84
 go_wp2
 repeat (go_quiet (fail);try go_wp2)
 go_loopg [13] k (fun kq v13 w'=>∃ (a5:Int),v13=.int .i64 a5∧Aside0 (slices_Equal_string.l0 kq l0 l1 (l0.length:Int) a5=some r)∧Aside0 (kq≤k)∧Drawn0 w w')
 case atStart=>exact ⟨(0),tq_3,H',⟨Nat.le_refl _⟩,tq_8⟩
 case round =>
 clear H'
 try clear c1;try clear p2;try clear c3;try clear ae;try clear af;try clear ag
 obtain ⟨a5,rfl,HA,HK1,⟨m1,rfl⟩⟩:=hrel
 cases gk with
 | zero=>exact absurd HA.out (by simp [slices_Equal_string.l0])
 | succ k1 =>
 have H:=HA.out
 clear HA
 simp only [slices_Equal_string.l0] at H
 by_cases c4:a5 < (l0.length:Int)
 rotate_left
 ·rw [if_neg c4] at H
  have ah:=df_ c4
  clear c4
  obtain rfl:=oi_ H
  go_wp2
  repeat (go_quiet (fail);try go_wp2)
  go_ret
  exact ⟨tq_3,tq_8⟩
 rw [if_pos c4] at H
 have ah:=de_ c4
 clear c4
 obtain ⟨c5,H⟩:=fc_ H
 have ap:=de_ c5
 clear c5
 obtain ⟨c6,H⟩:=fc_ H
 have aq:=de_ c6
 clear c6
 obtain ⟨c7,H⟩:=fc_ H
 have ar:=de_ c7
 clear c7
 have al:=m_ H
 clear H
 have a9:0≤(a5:Int):=od_ tq_2
 have aa:a5 < (l0.length:Int):=od_ tq_2
 obtain ⟨am,ai,a7⟩:=Kd.at_string HR0.out a5 a9 aa
 cases ai
 replace a9:=eq_true a9
 replace aa:=eq_true aa
 have ab:0≤(a5:Int):=od_ tq_2
 have ac:a5 < (l1.length:Int):=od_ tq_2
 obtain ⟨an,aj,a8⟩:=Kd.at_string ao.out a5 ab ac
 cases aj
 replace ab:=eq_true ab
 replace ac:=eq_true ac
 go_upto_if 24 with (fail)
 repeat (go_quiet (fail);go_upto_if 24 with (fail))
 (try clear a7)
 (try clear a8)
 have H:=al.out
 clear al
 by_cases c9:(rdOf ByteArray.empty l0 a5).toList=(rdOf ByteArray.empty l1 a5).toList
 rotate_left
 ·rw [if_neg c9] at H
  have a6:=qc_ c9
  have ak:=qd_ c9
  (first|rw [a6]|(simp only [i64_w,i32_w];rw [a6])|skip)
  obtain rfl:=oi_ H
  go_wp2
  repeat (go_quiet (fail);try go_wp2)
  go_ret
  exact ⟨tq_3,tq_8⟩
 rw [if_pos c9] at H
 have a6:=qa_ c9
 have ak:=qb_ c9
 clear c9
 (first|rw [a6]|(simp only [i64_w,i32_w];rw [a6])|skip)
 have H':=m_ H
 clear H
 go_wp2
 repeat (go_quiet (fail);try go_wp2)
 go_roundg k1
 case measure=>have:=HK1.out;omega
 case rel=>exact ⟨(wrap64 (a5+1)),tq_3,H',⟨tq_14⟩,tq_8⟩

def impl_StatesOk_1.f (a0:Int):Option (Bool):=(impl_within.f a0 0 2).bind fun a5=>(some (!a5))
theorem impl_StatesOk_1.calls (a0:Int) (r:Bool) (w:World) (h:impl_StatesOk_1.f a0=some r) :
  Calls Tryz.prog 116 #[.int .i64 a0] w fun e w'=>e=.returned (.bool r)∧Drawn0 w w':=by
 unfold impl_StatesOk_1.f at h
 have H:=h
 clear h
 obtain ⟨a5,A2,H⟩:=bd_ H
 obtain rfl:=oi_ H
 go_enter Tryz.func116,Tryz.ntmps116
 go_wp2_with (first|((with_reducible refine gate_callee (f:=57) rfl ?_);refine goesL_ (some 4) rfl rfl Tryz.func57 kr_ rfl #[.int .i64 a0,.int .i64 0,.int .i64 2] rfl tq_0 ?_;(with_reducible refine (impl_within.calls a0 0 2 a5 _ A2.out).mono ?_);rintro e w' ⟨rfl,⟨nd,rfl⟩⟩;refine ⟨_,rfl,?_⟩))
 go_ret
 exact ⟨tq_3,tq_8⟩

def slices_IndexFunc_int.l0:Nat→List Int→Int→Int→Option (Int)
 | 0,_,_,_=>none
 | k+1,x0,x7,x8=>if x8 < x7 then (if 0≤x8 then (if x8 < (x0.length:Int) then ((impl_StatesOk_1.f (rd x0 x8)).bind fun a5=>(if a5=true then (some x8) else (slices_IndexFunc_int.l0 k x0 x7 (wrap64 (x8+1))))) else (none)) else (none)) else (some (-1))
def slices_IndexFunc_int.f (k:Nat) (l0:List Int) (a1:Unit):Option (Int):=slices_IndexFunc_int.l0 k l0 (l0.length:Int) 0
theorem slices_IndexFunc_int.calls (k:Nat) (A0:Option Addr) (c0:Nat) (l0:List Int) (a1:Unit) (r:Int) (w:World) (hr0:Kd.C (Kd.int .i64) w A0 l0.length l0) (hc0:l0.length≤c0) (h:slices_IndexFunc_int.f k l0 a1=some r) :
  Calls Tryz.prog 127 #[.slice A0 l0.length c0,.func (.func 116) #[] #[]] w fun e w'=>e=.returned (.int .i64 r)∧Below w.heap.size w w':=by
 have HR0:=m_ hr0
 have ag:=m_ hc0
 clear hr0 hc0
 have HB:=m_ (Below.refl w.heap.size w)
 unfold slices_IndexFunc_int.f at h
 have H:=h
 clear h
 have H':=m_ H
 clear H
 go_enter Tryz.func127,Tryz.ntmps127
 go_wp2
 go_loopg [8] k (fun kq v8 w'=>∃ (x8_1:Int),v8=.int .i64 x8_1∧Aside0 (slices_IndexFunc_int.l0 kq l0 (l0.length:Int) x8_1=some r)∧Aside0 (kq≤k)∧Aside0 (Below w.heap.size w w'))
 case atStart=>exact ⟨(0),tq_3,H',⟨Nat.le_refl _⟩,⟨th_⟩⟩
 case round =>
 clear H'
 try clear c1;try clear p2
 obtain ⟨x8_1,rfl,HA,HK1,HB⟩:=hrel
 cases gk with
 | zero=>exact absurd HA.out (by simp [slices_IndexFunc_int.l0])
 | succ k1 =>
 have H:=HA.out
 clear HA
 simp only [slices_IndexFunc_int.l0] at H
 by_cases c3:x8_1 < (l0.length:Int)
 rotate_left
 ·rw [if_neg c3] at H
  have a9:=df_ c3
  clear c3
  obtain rfl:=oi_ H
  go_wp2
  go_ret
  exact ⟨tq_1,th_⟩
 rw [if_pos c3] at H
 have a9:=de_ c3
 clear c3
 obtain ⟨c4,H⟩:=fc_ H
 have ae:=de_ c4
 clear c4
 obtain ⟨c5,H⟩:=fc_ H
 have af:=de_ c5
 clear c5
 obtain ⟨a8,A6,H⟩:=bd_ H
 have ab:=m_ H
 clear H
 have a6:0≤(x8_1:Int):=od_ tq_2
 have a7:x8_1 < (l0.length:Int):=od_ tq_2
 obtain ⟨ac,aa,a5⟩:=Kd.at_int HR0.out x8_1 a6 a7
 cases aa
 replace a5:=hx_ HB.out a5
 replace a6:=eq_true a6
 replace a7:=eq_true a7
 go_upto_if 16 with (first|(go_at_call 116;(with_reducible refine (impl_StatesOk_1.calls (rd l0 x8_1) a8 _ A6.out).mono ?_);rintro e w' ⟨rfl,⟨nd,rfl⟩⟩))
 (try simp only [Act.put,List.setIfInBounds_toArray,List.set_cons_zero,List.set_cons_succ])
 (try clear a5)
 have H:=ab.out
 clear ab
 by_cases c8:a8=true
 ·subst c8
  rw [if_pos rfl] at H
  obtain rfl:=oi_ H
  go_wp2
  go_ret
  exact ⟨tq_1,th_⟩
 replace c8:=Bool.eq_false_iff.mpr c8
 subst c8
 rw [if_neg nf_] at H
 have H':=m_ H
 clear H
 go_wp2
 go_roundg k1
 case measure=>have:=HK1.out;omega
 case rel=>exact ⟨(wrap64 (x8_1+1)),tq_3,H',⟨tq_14⟩,⟨th_⟩⟩

def slices_ContainsFunc_int.f (k:Nat) (l0:List Int) (a1:Unit):Option (Bool):=(slices_IndexFunc_int.f k l0 a1).bind fun a5=>(some (decide (a5 ≥ 0)))
theorem slices_ContainsFunc_int.calls (k:Nat) (A0:Option Addr) (c0:Nat) (l0:List Int) (a1:Unit) (r:Bool) (w:World) (hr0:Kd.C (Kd.int .i64) w A0 l0.length l0) (hc0:l0.length≤c0) (h:slices_ContainsFunc_int.f k l0 a1=some r) :
  Calls Tryz.prog 115 #[.slice A0 l0.length c0,.func (.func 116) #[] #[]] w fun e w'=>e=.returned (.bool r)∧Below w.heap.size w w':=by
 have HR0:=m_ hr0
 have a6:=m_ hc0
 clear hr0 hc0
 have HB:=m_ (Below.refl w.heap.size w)
 unfold slices_ContainsFunc_int.f at h
 have H:=h
 clear h
 obtain ⟨a5,A3,H⟩:=bd_ H
 obtain rfl:=oi_ H
 go_enter Tryz.func115,Tryz.ntmps115
 go_wp2_with (first|((with_reducible refine gate_callee (f:=127) rfl ?_);refine goesL_ (some 7) rfl rfl Tryz.func127 kr_ rfl #[.slice A0 l0.length c0,.func (.func 116) #[] #[]] rfl tq_0 ?_;(with_reducible refine (slices_IndexFunc_int.calls k _ _ l0 a1 a5 _ ?side1 ?side2 A3.out).mono ?_);(case side1=>exact tq_24);(case side2=>exact a6.out);rintro e w4 ⟨rfl,hb⟩;refine ⟨_,rfl,?_⟩;have n0_:=m_ (below_step th_ hb);clear HB;have HB:=n0_;clear n0_;(try clear hb)))
 go_ret
 exact ⟨tq_1,th_⟩

def impl_StatesOk.f (k:Nat) (l0:List Int) (a1:Int):Option (Bool):=(impl_within.f a1 1 12).bind fun a5=>(if a5=true then (if (l0.length:Int)=a1 then ((slices_ContainsFunc_int.f k l0 ()).bind fun a6=>(some (!a6))) else (some false)) else (some false))
theorem impl_StatesOk.calls (k:Nat) (A0:Option Addr) (c0:Nat) (l0:List Int) (a1:Int) (r:Bool) (w:World) (hr0:Kd.C (Kd.int .i64) w A0 l0.length l0) (hc0:l0.length≤c0) (h:impl_StatesOk.f k l0 a1=some r) :
  Calls Tryz.prog 101 #[.slice A0 l0.length c0,.int .i64 a1] w fun e w'=>e=.returned (.bool r)∧Below w.heap.size w w':=by
 have HR0:=m_ hr0
 have a9:=m_ hc0
 clear hr0 hc0
 have HB:=m_ (Below.refl w.heap.size w)
 unfold impl_StatesOk.f at h
 have H:=h
 clear h
 obtain ⟨a5,A3,H⟩:=bd_ H
 by_cases c4:a5=true
 rotate_left
 ·replace c4:=Bool.eq_false_iff.mpr c4
  subst c4
  rw [if_neg nf_] at H
  obtain rfl:=oi_ H
  go_enter Tryz.func101,Tryz.ntmps101
  go_wp2_with (first|((with_reducible refine gate_callee (f:=57) rfl ?_);refine goesL_ (some 6) rfl rfl Tryz.func57 kr_ rfl #[.int .i64 a1,.int .i64 1,.int .i64 12] rfl tq_0 ?_;(with_reducible refine (impl_within.calls a1 1 12 false _ A3.out).mono ?_);rintro e w' ⟨rfl,⟨nd,rfl⟩⟩;refine ⟨_,rfl,?_⟩))
  go_ret
  exact ⟨tq_1,th_⟩
 subst c4
 rw [if_pos rfl] at H
 by_cases c5:(l0.length:Int)=a1
 rotate_left
 ·rw [if_neg c5] at H
  have a6:=qc_ c5
  have a7:=qd_ c5
  obtain rfl:=oi_ H
  go_enter Tryz.func101,Tryz.ntmps101
  go_wp2_with (first|((with_reducible refine gate_callee (f:=57) rfl ?_);refine goesL_ (some 6) rfl rfl Tryz.func57 kr_ rfl #[.int .i64 a1,.int .i64 1,.int .i64 12] rfl tq_0 ?_;(with_reducible refine (impl_within.calls a1 1 12 true _ A3.out).mono ?_);rintro e w' ⟨rfl,⟨nd,rfl⟩⟩;refine ⟨_,rfl,?_⟩))
  go_ret
  exact ⟨tq_1,th_⟩
 rw [if_pos c5] at H
 have a6:=qa_ c5
 have a7:=qb_ c5
 clear c5
 obtain ⟨a8,A6,H⟩:=bd_ H
 obtain rfl:=oi_ H
 go_enter Tryz.func101,Tryz.ntmps101
 go_wp2_with (first|((with_reducible refine gate_callee (f:=57) rfl ?_);refine goesL_ (some 6) rfl rfl Tryz.func57 kr_ rfl #[.int .i64 a1,.int .i64 1,.int .i64 12] rfl tq_0 ?_;(with_reducible refine (impl_within.calls a1 1 12 true _ A3.out).mono ?_);rintro e w' ⟨rfl,⟨nd,rfl⟩⟩;refine ⟨_,rfl,?_⟩)|(go_at_call 115;(with_reducible refine (slices_ContainsFunc_int.calls k _ _ l0 () a8 _ ?side1 ?side2 A6.out).mono ?_);(case side1=>exact tq_24);(case side2=>exact a9.out);rintro e w7 ⟨rfl,hb⟩;have n0_:=m_ (below_step th_ hb);clear HB;have HB:=n0_;clear n0_;(try clear hb)))
 go_ret
 exact ⟨tq_1,th_⟩

def impl_wordsOf.l0:Nat→ByteArray→List ByteArray→Int→Option (List ByteArray)
 | 0,_,_,_=>none
 | k+1,x0,x3,x4=>if x4 < (x0.size:Int) then (if 0≤x4 then (if x4≤(mn (wrap64 (x4+8)) (x0.size:Int)) then (if (mn (wrap64 (x4+8)) (x0.size:Int))≤(x0.size:Int) then ((impl_padded.f (x0.extract (x4:Int).toNat ((mn (wrap64 (x4+8)) (x0.size:Int)):Int).toNat) 8).bind fun a5=>(if x3.length < 8796093022208 then (impl_wordsOf.l0 k x0 (x3++[a5]) (wrap64 (x4+8))) else (none))) else (none)) else (none)) else (none)) else (some x3)
def impl_wordsOf.f (k:Nat) (a0:ByteArray):Option (List ByteArray):=impl_wordsOf.l0 k a0 (([]:List ByteArray)) 0
theorem impl_wordsOf.calls (k:Nat) (a0:ByteArray) (r:List ByteArray) (w:World) (h:impl_wordsOf.f k a0=some r) :
  Calls Tryz.prog 102 #[.string a0] w fun e w'=>∃ v0_:Value,e=.returned (v0_)∧Kd.R Kd.string 9 w' w.heap.size (fun _=>True) v0_ r∧Below w.heap.size w w':=by
 have HB:=m_ (Below.refl w.heap.size w)
 unfold impl_wordsOf.f at h
 have H:=h
 clear h
 obtain ⟨ac,a9⟩:∃ y_:List ByteArray,y_=(([]:List ByteArray)):=⟨_,rfl⟩
 replace H:(impl_wordsOf.l0 k a0 ac 0)=some r:=rh_ a9 H
 have ab:=m_ a9
 clear a9
 have H':=m_ H
 clear H
 go_enter Tryz.func102,Tryz.ntmps102
 go_wp2_with (first|((with_reducible refine gate_dst (N:=5) rfl ?_);refine Kd.R_lit Kd.string _ 9 ?hg (N:=5) ?hd (xs:=([]:List ByteArray)) (inner:=[]) (ok:=fun _=>True) (okp:=fun _=>True) ?hr ?hp (fun _ hk=>hk) trivial (Below.refl _ _) (Nat.le_refl _) (by simp) ?_;(case hd=>rfl);(case hg=>rfl);(case hr=>first|(go_simp;done)|(go_simp;rfl));(case hp=>exact (Reps.none _ _));intro v451 w2 ho3 hb hg_ hnew_;clear hg_ hnew_;(first|rw [← ab.out] at ho3|(simp only [Int.reduceToNat] at ho3;rw [← ab.out] at ho3));have z_:=p_ (Kd.R_lower ho3 (below_size th_)) <| a_ (below_step th_ hb);clear HB;obtain ⟨ae,HB⟩:=z_;clear hb ho3))
 go_loopg [3,4] k (fun kq v3 v4 w'=>∃ (a6:List ByteArray) (a5:Int),v4=.int .i64 a5∧Aside0 (impl_wordsOf.l0 kq a0 a6 a5=some r)∧Aside0 (kq≤k)∧Aside0 (Kd.R Kd.string 9 w' w.heap.size (fun _=>True) v3 a6)∧Aside0 (Below w.heap.size w w'))
 case atStart=>exact ⟨(ac),(0),tq_3,H',⟨Nat.le_refl _⟩,⟨(raR_ ae)⟩,⟨th_⟩⟩
 case round =>
 clear H'
 try clear c1;try clear p2
 obtain ⟨a6,a5,rfl,HA,HK1,a7,HB⟩:=hrel
 cases gk with
 | zero=>exact absurd HA.out (by simp [impl_wordsOf.l0])
 | succ k1 =>
 have H:=HA.out
 clear HA
 simp only [impl_wordsOf.l0] at H
 by_cases c4:a5 < (a0.size:Int)
 rotate_left
 ·rw [if_neg c4] at H
  have aj:=df_ c4
  clear c4
  obtain rfl:=oi_ H
  go_wp2
  go_ret
  exact ⟨_,tq_1,(raR_ a7),th_⟩
 rw [if_pos c4] at H
 have aj:=de_ c4
 clear c4
 obtain ⟨ji5,hji5⟩:∃ j_:Int,(mn (wrap64 (a5+8)) (a0.size:Int))=j_:=⟨_,rfl⟩
 replace H:(if 0≤a5 then (if a5≤(ji5) then (if (ji5)≤(a0.size:Int) then ((impl_padded.f (a0.extract (a5:Int).toNat ((ji5):Int).toNat) 8).bind fun a8=>(if a6.length < 8796093022208 then (impl_wordsOf.l0 k1 a0 (a6++[a8]) (wrap64 (a5+8))) else (none))) else (none)) else (none)) else (none))=some r:=by first|(rw [hji5] at H;exact H)|(simp only [hji5] at H ⊢;exact H)
 have hji5_:(if (a0.size:Int) < (wrap64 (a5+8)) then (a0.size:Int) else (wrap64 (a5+8)))=ji5:=hji5
 obtain ⟨c6,H⟩:=fc_ H
 have al:=eq_true c6
 have am:=de_ c6
 clear c6
 obtain ⟨c7,H⟩:=fc_ H
 have an:=eq_true c7
 have ao:=de_ c7
 clear c7
 obtain ⟨c8,H⟩:=fc_ H
 have ap:=eq_true c8
 have aq:=de_ c8
 clear c8
 obtain ⟨a8,A9,H⟩:=bd_ H
 obtain ⟨ak,H⟩:=fc_ H
 have af:=m_ ak
 clear ak
 obtain ⟨ag,aa⟩:∃ y_:List ByteArray,y_=(a6++[a8]):=⟨_,rfl⟩
 replace H:(impl_wordsOf.l0 k1 a0 ag (wrap64 (a5+8)))=some r:=rh_ aa H
 have ah:=m_ aa
 clear aa
 have H':=m_ H
 clear H
 go_wp2_with (first|((with_reducible refine gate_callee (f:=103) rfl ?_);refine goesL_ (some 21) rfl rfl Tryz.func103 kr_ rfl #[.string (a0.extract (a5:Int).toNat ((ji5):Int).toNat),.int .i64 8] rfl (by (try simp only [List.map_toArray,List.map_cons,List.map_nil]);first|done|(simp only [hji5];rfl)|rfl|(simp only [List.length_drop,List.length_take];rfl)) ?_;(with_reducible refine (impl_padded.calls (a0.extract (a5:Int).toNat ((ji5):Int).toNat) 8 a8 _ A9.out).mono ?_);rintro e ar ⟨rfl,hb⟩;refine ⟨_,rfl,?_⟩;have z_:=p_ (Kd.R_below (raR_ a7) hb) <| a_ (below_step th_ hb);clear a7 HB;obtain ⟨a7,HB⟩:=z_;(try clear hb))|((with_reducible refine gate_builtin (b:=.append) (xs:=#[.tmp 12,.tmp 22]) rfl ?_);at_builtin;refine Kd.R_append Kd.string (w0:=w) w.heap.size rfl (.tmp 12) (.tmp 22) 55 9 (.string ⟨#[]⟩) 16 rfl Tryz.underlying55 info9 rfl (by decide) (by omega) u3 a6 a8 [.string a8] (fun _=>True) (fun _=>False) rfl rfl ?aP (fun _ hk=>hk.elim) ?aF ?aO ?aB ?aS ?aL ?_;(case aP=>exact rfl);(case aB=>exact th_);(case aF=>exact (fun _ _=>trivial));(case aO=>exact (raR_ a7));(case aS=>exact (below_size th_));(case aL=>have:=af.out;omega);intro v455 au ho hb hg hat;rw [← ah.out] at ho;have z_:=p_ (hb) <| a_ (ho);clear HB a7;obtain ⟨HB,ai⟩:=z_;clear ho hb hg hat))
 go_roundg k1
 case measure=>have:=HK1.out;omega
 case rel=>exact ⟨(ag),(wrap64 (a5+8)),tq_3,H',⟨tq_14⟩,⟨(raR_ ai)⟩,⟨th_⟩⟩

def impl_StatesWords.l0:Nat→List Int→List Int→Int→Int→Option (List ByteArray)
 | 0,_,_,_,_=>none
 | k+1,x3,a6,a9,a5=>if a5 < a9 then (if 0≤a5 then (if a5 < (a6.length:Int) then (if x3.length < 140737488355328 then (impl_StatesWords.l0 k (x3++[(rd a6 a5) % 256]) a6 a9 (wrap64 (a5+1))) else (none)) else (none)) else (none)) else ((impl_padded.f (strOfNums x3) 16).bind fun a7=>((impl_wordsOf.f k a7).bind fun a8=>(some a8)))
def impl_StatesWords.f (k:Nat) (l0:List Int):Option (List ByteArray):=(impl_StatesOk.f k l0 (l0.length:Int)).bind fun a5=>(if a5=true then (impl_StatesWords.l0 k (([]:List Int)) l0 (l0.length:Int) 0) else (some ([]:List ByteArray)))
theorem impl_StatesWords.calls (k:Nat) (A0:Option Addr) (c0:Nat) (l0:List Int) (r:List ByteArray) (w:World) (hr0:Kd.C (Kd.int .i64) w A0 l0.length l0) (hc0:l0.length≤c0) (h:impl_StatesWords.f k l0=some r) :
  Calls Tryz.prog 85 #[.slice A0 l0.length c0] w fun e w'=>∃ v0_:Value,e=.returned (v0_)∧Kd.R Kd.string 9 w' w.heap.size (fun _=>True) v0_ r∧Below w.heap.size w w':=by
 have HR0:=m_ hr0
 have ay:=m_ hc0
 clear hr0 hc0
 have HB:=m_ (Below.refl w.heap.size w)
 unfold impl_StatesWords.f at h
 have H:=h
 clear h
 obtain ⟨ah,A2,H⟩:=bd_ H
 have ar:=m_ H
 clear H
 go_enter Tryz.func85,Tryz.ntmps85
 go_upto_if 10 with (first|((with_reducible refine gate_callee (f:=101) rfl ?_);refine goesL_ (some 9) rfl rfl Tryz.func101 kr_ rfl #[.slice A0 l0.length c0,.int .i64 (l0.length:Int)] rfl tq_0 ?_;(with_reducible refine (impl_StatesOk.calls k _ _ l0 (l0.length:Int) ah _ ?side1 ?side2 A2.out).mono ?_);(case side1=>exact tq_24);(case side2=>exact ay.out);rintro e w4 ⟨rfl,hb⟩;refine ⟨_,rfl,?_⟩;have n0_:=m_ (below_step th_ hb);clear HB;have HB:=n0_;clear n0_;(try clear hb)))
 (try simp only [Act.put,List.setIfInBounds_toArray,List.set_cons_zero,List.set_cons_succ])
 have H:=ar.out
 clear ar
 by_cases c5:ah=true
 rotate_left
 ·replace c5:=Bool.eq_false_iff.mpr c5
  subst c5
  rw [if_neg nf_] at H
  obtain rfl:=oi_ H
  go_wp2
  go_ret
  exact ⟨_,tq_1,tq_5,th_⟩
 subst c5
 rw [if_pos rfl] at H
 obtain ⟨ai,a9⟩:∃ y_:List Int,y_=(([]:List Int)):=⟨_,rfl⟩
 replace H:(impl_StatesWords.l0 k ai l0 (l0.length:Int) 0)=some r:=rh_ a9 H
 have ac:=m_ a9
 clear a9
 have H':=m_ H
 clear H
 go_wp2_with (first|((with_reducible refine gate_dst (N:=11) rfl ?_);refine Kd.R_lit (Kd.int .u8) _ 5 ?hg (N:=11) ?hd (xs:=([]:List Int)) (inner:=[]) (ok:=fun _=>True) (okp:=fun _=>True) ?hr ?hp (fun _ hk=>hk) trivial (Below.refl _ _) (Nat.le_refl _) (by simp) ?_;(case hd=>rfl);(case hg=>rfl);(case hr=>first|(go_simp;done)|(go_simp;rfl));(case hp=>exact (Reps.none _ _));intro v459 w6 ho7 hb hg_ hnew_;clear hg_ hnew_;(first|rw [← ac.out] at ho7|(simp only [Int.reduceToNat] at ho7;rw [← ac.out] at ho7));have z_:=p_ (Kd.R_lower ho7 (below_size th_)) <| a_ (below_step th_ hb);clear HB;obtain ⟨aj,HB⟩:=z_;clear hb ho7))
 go_loopg [3,14] k (fun kq v3 v14 w'=>∃ (a7:List Int) (a5:Int),v14=.int .i64 a5∧Aside0 (impl_StatesWords.l0 kq a7 l0 (l0.length:Int) a5=some r)∧Aside0 (kq≤k)∧Aside0 (Kd.R (Kd.int .u8) 5 w' w.heap.size (fun _=>True) v3 a7)∧Aside0 (Below w.heap.size w w'))
 case atStart=>exact ⟨(ai),(0),tq_3,H',⟨Nat.le_refl _⟩,⟨(raR_ aj)⟩,⟨th_⟩⟩
 case round =>
 clear H'
 try clear c1;try clear p2;try clear c5
 obtain ⟨a7,a5,rfl,HA,HK1,a6,HB⟩:=hrel
 cases gk with
 | zero=>exact absurd HA.out (by simp [impl_StatesWords.l0])
 | succ k1 =>
 have H:=HA.out
 clear HA
 simp only [impl_StatesWords.l0] at H
 by_cases c8:a5 < (l0.length:Int)
 rotate_left
 ·rw [if_neg c8] at H
  have aa:=df_ c8
  clear c8
  (first|rw [aa]|(simp only [i64_w,i32_w];rw [aa])|skip)
  obtain ⟨ae,az,H⟩:=bd_ H
  obtain ⟨ap,b0,H⟩:=bd_ H
  obtain rfl:=oi_ H
  have hcv15:=own_string (P:=Tryz.prog) Tryz.underlying101 Tryz.underlying5 Tryz.underlying9 (Kd.own_of_R a6.out)
  go_wp2_with (first|((with_reducible refine gate_callee (f:=103) rfl ?_);refine goesL_ (some 26) rfl rfl Tryz.func103 kr_ rfl #[.string (strOfNums a7),.int .i64 16] rfl tq_0 ?_;(with_reducible refine (impl_padded.calls (strOfNums a7) 16 ae _ az.out).mono ?_);rintro e b2 ⟨rfl,hb⟩;refine ⟨_,rfl,?_⟩;have z_:=p_ (Kd.R_below (raR_ a6) hb) <| a_ (below_step th_ hb);clear a6 HB;obtain ⟨a6,HB⟩:=z_;(try clear hb);(try clear hk))|((with_reducible refine gate_callee (f:=102) rfl ?_);refine goesL_ (some 27) rfl rfl Tryz.func102 kr_ rfl #[.string ae] rfl tq_0 ?_;(with_reducible refine (impl_wordsOf.calls k1 ae ap _ b0.out).mono ?_);rintro e b3 ⟨v467,rfl,ho0,hb⟩;refine ⟨_,rfl,?_⟩;have z_:=p_ (Kd.R_below (raR_ a6) hb) <| p_ (Kd.R_lower ho0 (below_size th_)) <| a_ (below_step th_ hb);clear a6 HB;obtain ⟨a6,ak,HB⟩:=z_;(try clear hb);(try clear hk);(try clear ho0)))
  go_ret
  exact ⟨_,tq_1,(raR_ ak),th_⟩
 rw [if_pos c8] at H
 have aa:=de_ c8
 clear c8
 (first|rw [aa]|(simp only [i64_w,i32_w];rw [aa])|skip)
 obtain ⟨c9,H⟩:=fc_ H
 have b1:=de_ c9
 clear c9
 obtain ⟨au,H⟩:=fc_ H
 have av:=de_ au
 clear au
 obtain ⟨aw,H⟩:=fc_ H
 have al:=m_ aw
 clear aw
 obtain ⟨am,ab⟩:∃ y_:List Int,y_=(a7++[(rd l0 a5) % 256]):=⟨_,rfl⟩
 replace H:(impl_StatesWords.l0 k1 am l0 (l0.length:Int) (wrap64 (a5+1)))=some r:=rh_ ab H
 have an:=m_ ab
 clear ab
 have H':=m_ H
 clear H
 have af:0≤(a5:Int):=od_ tq_2
 have ag:a5 < (l0.length:Int):=od_ tq_2
 obtain ⟨ax,aq,a8⟩:=Kd.at_int HR0.out a5 af ag
 cases aq
 replace a8:=hx_ HB.out a8
 replace af:=eq_true af
 replace ag:=eq_true ag
 go_wp2_with (first|((with_reducible refine gate_builtin (b:=.append) (xs:=#[.tmp 18,.tmp 21]) rfl ?_);at_builtin;refine Kd.R_append (Kd.int .u8) (w0:=w) w.heap.size rfl (.tmp 18) (.tmp 21) 101 5 (.int .u8 0) 1 rfl Tryz.underlying101 info5 rfl (by decide) (by omega) u3 a7 ((rd l0 a5) % 256) [.int .u8 ((rd l0 a5) % 256)] (fun _=>True) (fun _=>False) rfl rfl ?aP (fun _ hk=>hk.elim) ?aF ?aO ?aB ?aS ?aL ?_;(case aP=>exact rfl);(case aB=>exact th_);(case aF=>exact (fun _ _=>trivial));(case aO=>exact (raR_ a6));(case aS=>exact (below_size th_));(case aL=>have:=al.out;omega);intro v463 b4 ho hb hg hat;rw [← an.out] at ho;have z_:=p_ (hb) <| a_ (ho);clear HB a6;obtain ⟨HB,ao⟩:=z_;clear ho hb hg hat))
 go_roundg k1
 case measure=>have:=HK1.out;omega
 case rel=>exact ⟨(am),(wrap64 (a5+1)),tq_3,H',⟨tq_14⟩,⟨(raR_ ao)⟩,⟨th_⟩⟩

end Go.Proofs.YtleoknilacjakaaGreatDoor.PFnExactReadPart
