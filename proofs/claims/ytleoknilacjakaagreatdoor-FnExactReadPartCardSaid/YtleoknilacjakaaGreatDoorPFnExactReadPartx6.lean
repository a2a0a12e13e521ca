/- Contracts of Go functions: each call returns what the Lean function beside it computes. Conditions: as each theorem states them. -/
import Derived.Test.YtleoknilacjakaaGreatDoorPkFnExactReadPart
import Derived.Test.YtleoknilacjakaaGreatDoorPFnExactReadPartx3
namespace Go.Proofs.YtleoknilacjakaaGreatDoor.PFnExactReadPart
open Go.RowKit Go.Proofs.YtleoknilacjakaaGreatDoorW.PrintWords Go.Proofs.YtleoknilacjakaaGreatDoorW.PrintLast Go.Proofs.YtleoknilacjakaaGreatDoorW.PrintMore
attribute [local go_sem] max2_int min2_int max_two min_two max_three min_three max_four min_four setCell_drewN   -- for this text's walks alone
set_option linter.unusedVariables false
set_option maxHeartbeats 8000000
set_option maxRecDepth 100000
set_option linter.unusedSimpArgs false

def spec_StatesWords.l0:Nat→List Int→List Int→Int→Option (List ByteArray)
 | 0,_,_,_=>none
 | k+1,x0,x3,x4=>if x4 < (x0.length:Int) then (if 0≤x4 then (if x4 < (x3.length:Int) then (spec_StatesWords.l0 k x0 (x3.set (x4:Int).toNat ((rd x0 x4) % 256)) (wrap64 (x4+1))) else (none)) else (none)) else (if 8≤(x3.length:Int) then (some (([strOfNums (x3.take 8),strOfNums (x3.drop 8)]:List ByteArray))) else (none))
def spec_StatesWords.f (k:Nat) (l0:List Int):Option (List ByteArray):=(spec_StatesOk.f k l0 (l0.length:Int)).bind fun a5=>(if a5=true then (spec_StatesWords.l0 k l0 (List.replicate 16 0) 0) else (some (([]:List ByteArray))))
def spec_StatesWords.T8:Bool × List (List Nat × List Nat):=(true,[([],[]),([0],[0]),([1],[1]),([],[]),([3],[3]),([4],[4]),([2,5],[2,5]),([6,0,1,2,3,4,5,6],[6])])
def spec_StatesWords.B8:List Nat:=[0,1,3,0,8,24,63,127]
theorem spec_StatesWords.tab8:rtab .any (opsOf Tryz.f46 8)=spec_StatesWords.T8:=by kernel_rfl
theorem spec_StatesWords.bits8:waitsOk spec_StatesWords.T8.2 spec_StatesWords.B8=true:=by kernel_rfl
theorem spec_StatesWords.calls (k:Nat) (A0:Option Addr) (c0:Nat) (l0:List Int) (r:List ByteArray) (w:World) (hr0:Kd.C (Kd.int .i64) w A0 l0.length l0) (hc0:l0.length≤c0) (h:spec_StatesWords.f k l0=some r) :
  Calls Tryz.prog 46 #[.slice A0 l0.length c0] w fun e w'=>∃ v0_:Value,e=.returned (v0_)∧Kd.R Kd.string 9 w' w.heap.size (fun _=>True) v0_ r∧Below w.heap.size w w':=by
 have HR0:=m_ hr0
 have ca:=m_ hc0
 clear hr0 hc0
 have HB:=m_ (Below.refl w.heap.size w)
 unfold spec_StatesWords.f at h
 have H:=h
 clear h
 obtain ⟨b0,A2,H⟩:=bd_ H
 have br:=m_ H
 clear H
 go_enter Tryz.func46,Tryz.ntmps46
 go_upto_if 9 with (first|((with_reducible refine gate_callee (f:=74) rfl ?_);refine goesL_ (some 8) rfl rfl Tryz.func74 kr_ rfl #[.slice A0 l0.length c0,.int .i64 (l0.length:Int)] rfl tq_0 ?_;(with_reducible refine (spec_StatesOk.calls k _ _ l0 (l0.length:Int) b0 _ ?side1 ?side2 A2.out).mono ?_);(case side1=>exact tq_24);(case side2=>exact ca.out);rintro e w' ⟨rfl,⟨nd,rfl⟩⟩;refine ⟨_,rfl,?_⟩))
 (try simp only [Act.put,List.setIfInBounds_toArray,List.set_cons_zero,List.set_cons_succ])
 have H:=br.out
 clear br
 by_cases c4:b0=true
 rotate_left
 ·replace c4:=Bool.eq_false_iff.mpr c4
  subst c4
  rw [if_neg nf_] at H
  obtain ⟨bc,ag⟩:∃ y_:List ByteArray,y_=(([]:List ByteArray)):=⟨_,rfl⟩
  replace H:(some bc)=some r:=rh_ ag H
  have ao:=m_ ag
  clear ag
  obtain rfl:=oi_ H
  go_wp2_with (first|((with_reducible refine gate_dst (N:=10) rfl ?_);refine Kd.R_lit Kd.string _ 9 ?hg (N:=10) ?hd (xs:=([]:List ByteArray)) (inner:=[]) (ok:=fun _=>True) (okp:=fun _=>True) ?hr ?hp (fun _ hk=>hk) trivial (Below.refl _ _) (Nat.le_refl _) (by simp) ?_;(case hd=>rfl);(case hg=>rfl);(case hr=>first|(go_simp;done)|(go_simp;rfl));(case hp=>exact (Reps.none _ _));intro v156 cf ho25 hb hg_ hnew_;clear hg_ hnew_;(first|rw [← ao.out] at ho25|(simp only [Int.reduceToNat] at ho25;rw [← ao.out] at ho25));have z_:=p_ (Kd.R_lower ho25 (below_size th_)) <| a_ (below_step th_ hb);clear HB;obtain ⟨b1,HB⟩:=z_;clear hb ho25))
  go_ret
  exact ⟨_,tq_1,(raR_ b1),th_⟩
 subst c4
 rw [if_pos rfl] at H
 obtain ⟨b2,ah⟩:∃ y_:List Int,y_=(List.replicate 16 0):=⟨_,rfl⟩
 replace H:(spec_StatesWords.l0 k l0 b2 0)=some r:=rh_ ah H
 have ap:=m_ ah
 clear ah
 have H':=m_ H
 clear H
 go_wp2_with (first|((with_reducible refine gate_dst (N:=11) rfl ?_);refine Kd.R_make (Kd.int .u8) _ 5 rfl (N:=11) rfl 101 _ _ rfl 16 rfl rfl Tryz.underlying101 (.int .u8 0) 1 info5 rfl (by decide) (by omega) 0 (ok:=fun _=>True) (okp:=fun _=>True) rfl (fun _ hk=>hk) trivial (by omega) (by omega) (Below.refl _ _) (Nat.le_refl _) ?_;intro v159 w5 ho6 hb hg_ hnew_;clear hg_ hnew_;(first|rw [← ap.out] at ho6|(simp only [Int.reduceToNat] at ho6;rw [← ap.out] at ho6));have z_:=p_ (Kd.R_lower ho6 (below_size th_)) <| a_ (below_step th_ hb);clear HB;obtain ⟨b3,HB⟩:=z_;clear hb ho6))
 go_loopg [4] k (fun kq v4 w'=>∃ (a5:List Int) (a6:Int),v4=.int .i64 a6∧Aside0 (spec_StatesWords.l0 kq l0 a5 a6=some r)∧Aside0 (kq≤k)∧Aside0 (Kd.R (Kd.int .u8) 5 w' w.heap.size (fun _=>True) v159 a5)∧Aside0 (Below w.heap.size w w'))
 case atStart=>exact ⟨(b2),(0),tq_3,H',⟨Nat.le_refl _⟩,⟨(raR_ b3)⟩,⟨th_⟩⟩
 case round =>
 clear H'
 try clear p2;try clear c4
 obtain ⟨a5,a6,rfl,HA,HK1,a7,HB⟩:=hrel
 cases gk with
 | zero=>exact absurd HA.out (by simp [spec_StatesWords.l0])
 | succ k1 =>
 have H:=HA.out
 clear HA
 simp only [spec_StatesWords.l0] at H
 by_cases c7:a6 < (l0.length:Int)
 ·rw [if_pos c7] at H
  have ai:=de_ c7
  clear c7
  (first|rw [ai]|(simp only [i64_w,i32_w];rw [ai])|skip)
  obtain ⟨c8,H⟩:=fc_ H
  have cb:=de_ c8
  clear c8
  obtain ⟨c9,H⟩:=fc_ H
  have cc:=de_ c9
  clear c9
  obtain ⟨av,aj⟩:∃ y_:List Int,y_=(a5.set (a6:Int).toNat ((rd l0 a6) % 256)):=⟨_,rfl⟩
  replace H:(spec_StatesWords.l0 k1 l0 av (wrap64 (a6+1)))=some r:=rh_ aj H
  have b4:=m_ aj
  clear aj
  have H':=m_ H
  clear H
  have aw:0≤(a6:Int):=od_ tq_2
  have ax:a6 < (l0.length:Int):=od_ tq_2
  obtain ⟨bs,bd,ac⟩:=Kd.at_int HR0.out a6 aw ax
  cases bd
  replace ac:=hx_ HB.out ac
  replace aw:=eq_true aw
  replace ax:=eq_true ax
  have be:0≤(a6:Int):=od_ tq_2
  have bf:(a6:Int) < ((a5.length:Int):Int):=od_ tq_2
  obtain ⟨ay,bg,b5,b6,bh,cd,b7⟩:=Kd.R_form a7.out (by omega)
  (first|cases b5|(injection b5 with ea_ en_ ec_;(first|subst ea_|(injection ea_ with ea_;subst ea_));subst ec_;clear en_))
  have bi:=m_ b6
  have ce:=m_ b7
  clear b6 bh b7
  obtain ⟨bj,bl⟩:=Kd.R_celln 0 a7.out (a6:Int) be bf
  replace be:=eq_true be
  replace bf:=eq_true bf
  have HP11:=Kd.R_putg a7.out (a6:Int) ((rd l0 a6) % 256)
  go_wp2_with (first|((with_reducible refine gate_store (t:=5) (p:=25) rfl ?_);refine store_event (t:=5) (p:=25) (v:=?vo_w12) (w1:=(wr.setCell ⟨ay,(a6:Int).toNat,none⟩ (.int .u8 ((rd l0 a6) % 256)))) ?hg ?ho ?hn ?hr ?_;(case ho=>rfl);(case hg=>rfl);(case hn=>rfl);(case hr=>first|(go_simp;done)|(go_simp;rfl));intro bm hw;have hg:wr.grownBy bm (some ay):=(by rw [hw];exact HP11.2);have hp_:Kd.R (Kd.int .u8) 5 bm w.heap.size (fun _=>True) (.slice (some ⟨ay,0,none⟩) a5.length bg) av:=(by rw [hw,b4.out];exact HP11.1);clear HP11;have z_:=p_ (hp_) <| a_ ((by rw [hw];exact below_set (HB.out) bi.out:Below w.heap.size w bm));clear a7 HB;obtain ⟨a7,HB⟩:=z_;clear hg hw hp_))
  go_roundg k1
  case measure=>have:=HK1.out;omega
  case rel=>exact ⟨(av),(wrap64 (a6+1)),tq_3,H',⟨tq_14⟩,⟨(raR_ a7)⟩,⟨th_⟩⟩
 rw [if_neg c7] at H
 have ai:=df_ c7
 clear c7
 (first|rw [ai]|(simp only [i64_w,i32_w];rw [ai])|skip)
 obtain ⟨bn,H⟩:=fc_ H
 have bu:=eq_true bn
 have bv:=de_ bn
 clear bn
 obtain ⟨a9,ak⟩:∃ y_:List Int,y_=(a5.take 8):=⟨_,rfl⟩
 replace H:(some (([strOfNums a9,strOfNums (a5.drop 8)]:List ByteArray)))=some r:=rh_ ak H
 have aq:=m_ ak
 clear ak
 have bw:=eq_true (od_ tq_2:8≤(a5.length:Int))
 obtain ⟨a8,al⟩:∃ y_:List Int,y_=(a5.drop 8):=⟨_,rfl⟩
 replace H:(some (([strOfNums a9,strOfNums a8]:List ByteArray)))=some r:=rh_ al H
 have ar:=m_ al
 clear al
 obtain ⟨bo,am⟩:∃ y_:List ByteArray,y_=(([strOfNums a9,strOfNums a8]:List ByteArray)):=⟨_,rfl⟩
 replace H:(some bo)=some r:=rh_ am H
 have au:=m_ am
 clear am
 obtain rfl:=oi_ H
 try go_wp2
 have z_:=p_ (Kd.R_drew a7.out) <| a_ (below_drew1 HB.out)
 clear a7 HB
 obtain ⟨a7,HB⟩:=z_
 obtain ⟨ab,aa,b8⟩:=Kd.R_slice a7.out
 (first|subst b8|(injection b8 with f1_ f2_ f3_;have f4_:=f1_.symm;have f5_:=f3_.symm;clear f1_ f2_ f3_;subst f4_;subst f5_))
 have bp:(8:Int)≤((a5.length:Int):Int):=od_ tq_2
 obtain ⟨i016,hi016,_,hsz16,_⟩:=info_parts info5
 have hroom16:a5.length≤aa:=(Kd.R_reads' a7.out).2.1
 have hC16:Kd.C (Kd.int .u8) _ ab a5.length a5:=(Kd.R_reads' a7.out).2.2
 have hcut16:=cut_to (P:=Tryz.prog) 101 5 .i64 Tryz.underlying101 hi016 ab a5.length aa 8 (by omega) bp hroom16
 have hr16:=Kd.C_take (m:=8) hC16 (by omega)
 have az:a9.length=(8:Int).toNat:=(by rw [aq.out,List.length_take];omega)
 rw [← aq.out] at hr16
 rw [← az] at hcut16
 have ae:=m_ hr16
 have bx:=m_ (show a9.length≤aa from by omega)
 clear hr16 hC16 hroom16 hi016 hsz16
 have KY16:=m_ az
 clear az
 have KL16:=m_ (show 8≤a5.length from by omega)
 replace bp:=eq_true bp
 have bq:(8:Int)≤((a5.length:Int):Int):=od_ tq_2
 obtain ⟨i018,hi018,_,hsz18,_⟩:=info_parts info5
 have hroom18:a5.length≤aa:=(Kd.R_reads' a7.out).2.1
 have hC18:Kd.C (Kd.int .u8) _ ab a5.length a5:=(Kd.R_reads' a7.out).2.2
 have hcut18:=cut_from (P:=Tryz.prog) 101 5 .i64 Tryz.underlying101 hi018 1 hsz18 ab a5.length aa 8 (by omega) bq
 have hr18:=Kd.C_drop (m:=(8:Int).toNat) (c:=aa) hC18 (by omega) hroom18
 obtain ⟨ba,hA18⟩:∃ A1,A1=(if aa=(8:Int).toNat then ab else (ab:Option Addr).map (·.add ((8:Int).toNat * 1))):=⟨_,rfl⟩
 obtain ⟨bb,hc18⟩:∃ c1,c1=aa - (8:Int).toNat:=⟨_,rfl⟩
 have an:a8.length=a5.length - (8:Int).toNat:=(by rw [ar.out,List.length_drop] <;> omega)
 rw [show (a5).drop (8:Int).toNat=a8 from ar.out.symm] at hr18
 replace hr18:Kd.C (Kd.int .u8) _ ba a8.length a8:=(by rw [hA18];exact hr18)
 rw [← an,← hA18,← hc18] at hcut18
 have af:=m_ hr18
 have bz:=m_ (show a8.length≤bb from by rw [an,hc18];exact Nat.sub_le_sub_right hroom18 _)
 clear hr18 hC18 hroom18 hi018 hsz18 hc18
 have KY18:=m_ an
 have KA18:=m_ hA18
 clear an hA18
 have KL18:=m_ (show 8≤a5.length from by omega)
 replace bq:=eq_true bq
 have hcv19:=Kd.C_string (P:=Tryz.prog) (A:=ab) (c:=aa) Tryz.underlying101 Tryz.underlying5 Tryz.underlying9 (by repeat (first|(with_reducible exact ae.out)|(with_reducible refine Kd.C_alloc ?_ _)|(with_reducible refine Kd.C_drewN ?_ _)|(with_reducible refine Kd.C_drew ?_)|exact ae.out))
 have hcv20:=Kd.C_string (P:=Tryz.prog) (A:=ba) (c:=bb) Tryz.underlying101 Tryz.underlying5 Tryz.underlying9 (by repeat (first|(with_reducible exact af.out)|(with_reducible refine Kd.C_alloc ?_ _)|(with_reducible refine Kd.C_drewN ?_ _)|(with_reducible refine Kd.C_drew ?_)|exact af.out))
 refine start_ (n:=8) (S:=fun w'=>(convert 101 9 (.slice ab a9.length aa)).run Tryz.prog w'=.ok (.string (strOfNums a9)) w'∧(convert 101 9 (.slice ba a8.length bb)).run Tryz.prog w'=.ok (.string (strOfNums a8)) w') (ds:=[]) bq_3 kr_ rfl rfl ⟨hcv19,hcv20⟩ (fun hHeld=>?_);refine with_tabW spec_StatesWords.tab8 spec_StatesWords.bits8 (fun HT_ HW_=>?_)
 generalize wr.drew=cg at a7 HB ae af hHeld ⊢
 refine tr_ 0 26 bq_4 HT_ HW_ hHeld ?_
 refine tr_ 1 27 bq_67 HT_ HW_ hHeld ?_
 refine tr_ 2 28 bq_68 HT_ HW_ hHeld ?_
 refine tr_ 3 29 bq_69 HT_ HW_ hHeld ?_
 refine tr_ 4 30 bq_149 HT_ HW_ hHeld ?_
 refine tr_ 5 31 bq_5 HT_ HW_ hHeld ?_
 refine one_ (i:=6) (N:=some 32) bq_6 rfl rfl (one_of HT_.out kr_) (by decide) (fun K hK=>?_)
 refine Kd.R_lit_step Kd.string _ 9 ?hg (N:=32) ?hd (xs:=([strOfNums a9,strOfNums a8]:List ByteArray)) (inner:=[.string (strOfNums a9),.string (strOfNums a8)]) (ok:=fun _=>True) (okp:=fun _=>True) ?hr ?hp (fun _ hk=>hk) trivial (Below.refl _ _) (Nat.le_refl _) (by simp) ?_;(case hd=>rfl);(case hg=>rfl);(case hr=>first|(go_simp;done)|(go_simp;rfl));(case hp=>exact (Reps.one (show Kd.M Kd.string _ _ _ (strOfNums a9) [.string (strOfNums a9)] from rfl) (Reps.one (show Kd.M Kd.string _ _ _ (strOfNums a8) [.string (strOfNums a8)] from rfl) (Reps.none _ _))))
 intro v172 ch ho23 hb hg_ hnew_
 clear hg_ hnew_
 (first|rw [← au.out] at ho23|(simp only [Int.reduceToNat] at ho23;rw [← au.out] at ho23))
 have n0_:=m_ (Kd.R_below (raR_ a7) hb)
 have n1_:=m_ (Kd.R_lower ho23 (below_size th_))
 have hcv19b:=Kd.C_string (P:=Tryz.prog) (A:=ab) (c:=aa) Tryz.underlying101 Tryz.underlying5 Tryz.underlying9 (Kd.C_below ae.out hb)
 have hcv20b:=Kd.C_string (P:=Tryz.prog) (A:=ba) (c:=bb) Tryz.underlying101 Tryz.underlying5 Tryz.underlying9 (Kd.C_below af.out hb)
 have n2_:=m_ (below_step th_ hb)
 clear a7 HB
 have a7:=n0_
 have b9:=n1_
 have HB:=n2_
 clear n0_ n1_ n2_ hb ho23
 refine hK.out _ _ ⟨hcv19b,hcv20b⟩ (fun hHeld=>?_)
 clear hK K
 refine nm_ (some 32) ?_
 refine tr_ 7 2 bq_7 HT_ HW_ hHeld ?_
 refine done_ (done_of HT_.out kr_) ?_
 try go_wp2
 go_ret
 exact ⟨_,tq_1,(raR_ b9),th_⟩

mutual
def spec_ReadStates.j0:Nat→List ByteArray→Int→Bool→Option (List Int × Bool)
 | 0,_,_,_=>none
 | k+1,x0,x1,a6=>if a6=true then (some ((([]:List Int)),false)) else (if 0 < (x0.length:Int) then (if 1 < (x0.length:Int) then (if (rdOf ByteArray.empty x0 0).size+(rdOf ByteArray.empty x0 1).size≤9223372036854775807 then ((some ((rdOf ByteArray.empty x0 0)++(rdOf ByteArray.empty x0 1):ByteArray)).bind fun a5=>(spec_ReadStates.l0 k x0 x1 a5 (([]:List Int)) 0)) else (none)) else (none)) else (none))
def spec_ReadStates.l0:Nat→List ByteArray→Int→ByteArray→List Int→Int→Option (List Int × Bool)
 | 0,_,_,_,_,_=>none
 | k+1,x0,x1,x6,x7,x8=>if x8 < x1 then (if 0≤x8 then (if x8 < (x6.size:Int) then (if x7.length < 17592186044416 then (spec_ReadStates.l0 k x0 x1 x6 (x7++[wrap64 (bt x6 x8)]) (wrap64 (x8+1))) else (none)) else (none)) else (none)) else ((spec_StatesWords.f k x7).bind fun a5=>((spec_l12Words.f k a5 x0).bind fun a6=>(if a6=true then (some (x7,true)) else (some ((([]:List Int)),false)))))
end
def spec_ReadStates.f (k:Nat) (l0:List ByteArray) (a1:Int):Option (List Int × Bool):=if (l0.length:Int)=2 then (if 0 < (l0.length:Int) then (if ((rdOf ByteArray.empty l0 0).size:Int)=8 then (if 1 < (l0.length:Int) then (if ((rdOf ByteArray.empty l0 1).size:Int)=8 then ((spec_l01In.f a1 1 12).bind fun a5=>(spec_ReadStates.j0 k l0 a1 (!a5))) else (spec_ReadStates.j0 k l0 a1 true)) else (none)) else (spec_ReadStates.j0 k l0 a1 true)) else (none)) else (spec_ReadStates.j0 k l0 a1 true)
theorem spec_ReadStates.calls (k:Nat) (A0:Option Addr) (c0:Nat) (l0:List ByteArray) (a1:Int) (r1:List Int) (r2:Bool) (w:World) (hr0:Kd.C Kd.string w A0 l0.length l0) (hc0:l0.length≤c0) (h:spec_ReadStates.f k l0 a1=some (r1,r2)) :
  Calls Tryz.prog 22 #[.slice A0 l0.length c0,.int .i64 a1] w fun e w'=>∃ v0_:Value,e=.returned (.tuple #[v0_,.bool r2])∧Kd.R (Kd.int .i64) 3 w' w.heap.size (fun _=>True) v0_ r1∧Below w.heap.size w w':=by
 have HR0:=m_ hr0
 have ci:=m_ hc0
 clear hr0 hc0
 have HB:=m_ (Below.refl w.heap.size w)
 unfold spec_ReadStates.f at h
 have H:=h
 clear h
 have cj:=m_ H
 clear H
 go_enter Tryz.func22,Tryz.ntmps22
 go_upto_region 1 with (fail)
 repeat (go_quiet (fail);go_upto_region 1 with (fail))
 go_cut [30] (fun v30 wc=>∃ (kq:Nat) (al:Bool),v30=.bool al∧Aside0 (spec_ReadStates.j0 kq l0 a1 al=some (r1,r2))∧Aside0 (kq≤k)∧Aside0 (Below w.heap.size w wc))
 case first =>
  have H:=cj.out
  clear cj
  by_cases c4:(l0.length:Int)=2
  rotate_left
  ·rw [if_neg c4] at H
   have ak:=qc_ c4
   have bb:=qd_ c4
   (first|rw [ak]|(simp only [i64_w,i32_w];rw [ak])|skip)
   have H':=m_ H
   clear H
   go_wp2
   repeat (go_quiet (fail);try go_wp2)
   go_meet
   case rel=>exact ⟨_,(true),tq_3,H',⟨tq_12⟩,⟨th_⟩⟩
  rw [if_pos c4] at H
  have ak:=qa_ c4
  have bb:=qb_ c4
  clear c4
  (first|rw [ak]|(simp only [i64_w,i32_w];rw [ak])|skip)
  obtain ⟨c5,H⟩:=fc_ H
  have bi:=de_ c5
  have bj:decide (0 < l0.length)=true:=de_ (by omega)
  clear c5
  by_cases c6:((rdOf ByteArray.empty l0 0).size:Int)=8
  rotate_left
  ·rw [if_neg c6] at H
   have bc:=qc_ c6
   have bd:=qd_ c6
   have H':=m_ H
   clear H
   have aa:0≤(0:Int):=(by omega)
   have ab:0 < (l0.length:Int):=od_ tq_2
   obtain ⟨am,ao,a5⟩:=Kd.at_string HR0.out 0 aa ab
   cases ao
   have b9:(0 < l0.length)=True:=eq_true (by omega)
   (try rw [show ((0:Int)).toNat=0 from rfl] at a5)
   (try rw [Addr.add_zero'] at a5)
   replace a5:=hx_ HB.out a5
   replace aa:=eq_true aa
   replace ab:=eq_true ab
   go_wp2
   repeat (go_quiet (fail);try go_wp2)
   go_meet
   case rel=>exact ⟨_,(true),tq_3,H',⟨tq_12⟩,⟨th_⟩⟩
  rw [if_pos c6] at H
  have bc:=qa_ c6
  have bd:=qb_ c6
  clear c6
  obtain ⟨c7,H⟩:=fc_ H
  have bl:=de_ c7
  have bm:decide (1 < l0.length)=true:=de_ (by omega)
  clear c7
  by_cases c8:((rdOf ByteArray.empty l0 1).size:Int)=8
  rotate_left
  ·rw [if_neg c8] at H
   have be:=qc_ c8
   have bf:=qd_ c8
   have H':=m_ H
   clear H
   have aa:0≤(0:Int):=(by omega)
   have ab:0 < (l0.length:Int):=od_ tq_2
   obtain ⟨am,ao,a5⟩:=Kd.at_string HR0.out 0 aa ab
   cases ao
   have b9:(0 < l0.length)=True:=eq_true (by omega)
   (try rw [show ((0:Int)).toNat=0 from rfl] at a5)
   (try rw [Addr.add_zero'] at a5)
   replace a5:=hx_ HB.out a5
   replace aa:=eq_true aa
   replace ab:=eq_true ab
   have ai:0≤(1:Int):=(by omega)
   have aj:1 < (l0.length:Int):=od_ tq_2
   obtain ⟨ap,bg,a6⟩:=Kd.at_string HR0.out 1 ai aj
   obtain rfl:am=ap:=(by injection bg)
   (try simp only [show (1:Int).toNat=1 from rfl,Nat.reduceMul,Nat.reduceEqDiff,Go.Addr.add,↓reduceIte] at a6)
   have bn:(1 < l0.length)=True:=eq_true (by omega)
   (try rw [show ((1:Int)).toNat=1 from rfl] at a6)
   replace a6:=hx_ HB.out a6
   replace ai:=eq_true ai
   replace aj:=eq_true aj
   go_wp2
   repeat (go_quiet (fail);try go_wp2)
   go_meet
   case rel=>exact ⟨_,(true),tq_3,H',⟨tq_12⟩,⟨th_⟩⟩
  rw [if_pos c8] at H
  have be:=qa_ c8
  have bf:=qb_ c8
  clear c8
  obtain ⟨b3,A9,H⟩:=bd_ H
  have H':=m_ H
  clear H
  have aa:0≤(0:Int):=(by omega)
  have ab:0 < (l0.length:Int):=od_ tq_2
  obtain ⟨am,ao,a5⟩:=Kd.at_string HR0.out 0 aa ab
  cases ao
  have b9:(0 < l0.length)=True:=eq_true (by omega)
  (try rw [show ((0:Int)).toNat=0 from rfl] at a5)
  (try rw [Addr.add_zero'] at a5)
  replace a5:=hx_ HB.out a5
  replace aa:=eq_true aa
  replace ab:=eq_true ab
  have ai:0≤(1:Int):=(by omega)
  have aj:1 < (l0.length:Int):=od_ tq_2
  obtain ⟨ap,bg,a6⟩:=Kd.at_string HR0.out 1 ai aj
  obtain rfl:am=ap:=(by injection bg)
  (try simp only [show (1:Int).toNat=1 from rfl,Nat.reduceMul,Nat.reduceEqDiff,Go.Addr.add,↓reduceIte] at a6)
  have bn:(1 < l0.length)=True:=eq_true (by omega)
  (try rw [show ((1:Int)).toNat=1 from rfl] at a6)
  replace a6:=hx_ HB.out a6
  replace ai:=eq_true ai
  replace aj:=eq_true aj
  go_wp2_with (first|(go_at_call 42;(with_reducible refine (spec_l01In.calls a1 1 12 b3 _ A9.out).mono ?_);rintro e w' ⟨rfl,⟨nd,rfl⟩⟩;(try first|exact ⟨rfl,_,World.drewN_drewN _ _ _⟩|exact ⟨rfl,_,Eq.trans (World.drewN_drewN _ _ _) (congrArg (World.drewN _) (Nat.add_assoc _ _ _))⟩)))
  repeat (go_quiet (first|(go_at_call 42;(with_reducible refine (spec_l01In.calls a1 1 12 b3 _ A9.out).mono ?_);rintro e w' ⟨rfl,⟨nd,rfl⟩⟩;(try first|exact ⟨rfl,_,World.drewN_drewN _ _ _⟩|exact ⟨rfl,_,Eq.trans (World.drewN_drewN _ _ _) (congrArg (World.drewN _) (Nat.add_assoc _ _ _))⟩)));try go_wp2_with (first|(go_at_call 42;(with_reducible refine (spec_l01In.calls a1 1 12 b3 _ A9.out).mono ?_);rintro e w' ⟨rfl,⟨nd,rfl⟩⟩;(try first|exact ⟨rfl,_,World.drewN_drewN _ _ _⟩|exact ⟨rfl,_,Eq.trans (World.drewN_drewN _ _ _) (congrArg (World.drewN _) (Nat.add_assoc _ _ _))⟩))))
  go_meet
  case rel=>exact ⟨_,(!b3),tq_3,H',⟨tq_12⟩,⟨th_⟩⟩
 case rest =>
 clear cj
 try clear p1;try clear q1;try clear hx1;try clear d9;try clear c2;try clear p2;try clear c4;try clear ak;try clear bb;try clear c5;try clear bi;try clear bj;try clear c6;try clear bc;try clear bd;try clear c7;try clear bl;try clear bm;try clear c8;try clear be;try clear bf;try clear a5;try clear a6;try clear aa;try clear ai;try clear ab;try clear aj
 obtain ⟨kq,al,rfl,HA,HJ2,HB⟩:=hcut
 cases kq with
 | zero=>exact absurd HA.out (by simp [spec_ReadStates.j0])
 | succ kj2 =>
 have H:=HA.out
 clear HA
 simp only [spec_ReadStates.j0] at H
 by_cases bo:al=true
 ·subst bo
  rw [if_pos rfl] at H
  obtain ⟨ck,aq⟩:∃ y_:List Int,y_=(([]:List Int)):=⟨_,rfl⟩
  replace H:(some (ck,false))=some (r1,r2):=rh_ aq H
  have af:=m_ aq
  clear aq
  simp only [Option.some.injEq,Prod.mk.injEq] at H
  obtain ⟨rfl,rfl⟩:=H
  go_wp2_with (first|((with_reducible refine gate_dst (N:=31) rfl ?_);(try (refine gate_guard (by rfl) ?_;dsimp only));refine Kd.R_lit (Kd.int .i64) _ 3 ?hg (N:=31) ?hd (xs:=([]:List Int)) (inner:=[]) (ok:=fun _=>True) (okp:=fun _=>True) ?hr ?hp (fun _ hk=>hk) trivial (Below.refl _ _) (Nat.le_refl _) (by simp) ?_;(case hd=>rfl);(case hg=>rfl);(case hr=>first|(go_simp;done)|(go_simp;rfl));(case hp=>exact (Reps.none _ _));intro v178 cu ho12 hb hg_ hnew_;clear hg_ hnew_;(first|rw [← af.out] at ho12|(simp only [Int.reduceToNat] at ho12;rw [← af.out] at ho12));have z_:=p_ (Kd.R_lower ho12 (below_size th_)) <| a_ (below_step th_ hb);clear HB;obtain ⟨ar,HB⟩:=z_;clear hb ho12))
  repeat (go_quiet (first|((with_reducible refine gate_dst (N:=31) rfl ?_);(try (refine gate_guard (by rfl) ?_;dsimp only));refine Kd.R_lit (Kd.int .i64) _ 3 ?hg (N:=31) ?hd (xs:=([]:List Int)) (inner:=[]) (ok:=fun _=>True) (okp:=fun _=>True) ?hr ?hp (fun _ hk=>hk) trivial (Below.refl _ _) (Nat.le_refl _) (by simp) ?_;(case hd=>rfl);(case hg=>rfl);(case hr=>first|(go_simp;done)|(go_simp;rfl));(case hp=>exact (Reps.none _ _));intro v178 cu ho12 hb hg_ hnew_;clear hg_ hnew_;(first|rw [← af.out] at ho12|(simp only [Int.reduceToNat] at ho12;rw [← af.out] at ho12));have z_:=p_ (Kd.R_lower ho12 (below_size th_)) <| a_ (below_step th_ hb);clear HB;obtain ⟨ar,HB⟩:=z_;clear hb ho12));try go_wp2_with (first|((with_reducible refine gate_dst (N:=31) rfl ?_);(try (refine gate_guard (by rfl) ?_;dsimp only));refine Kd.R_lit (Kd.int .i64) _ 3 ?hg (N:=31) ?hd (xs:=([]:List Int)) (inner:=[]) (ok:=fun _=>True) (okp:=fun _=>True) ?hr ?hp (fun _ hk=>hk) trivial (Below.refl _ _) (Nat.le_refl _) (by simp) ?_;(case hd=>rfl);(case hg=>rfl);(case hr=>first|(go_simp;done)|(go_simp;rfl));(case hp=>exact (Reps.none _ _));intro v178 cu ho12 hb hg_ hnew_;clear hg_ hnew_;(first|rw [← af.out] at ho12|(simp only [Int.reduceToNat] at ho12;rw [← af.out] at ho12));have z_:=p_ (Kd.R_lower ho12 (below_size th_)) <| a_ (below_step th_ hb);clear HB;obtain ⟨ar,HB⟩:=z_;clear hb ho12)))
  go_ret2
  exact ⟨_,tq_1,(raR_ ar),th_⟩
 replace bo:=Bool.eq_false_iff.mpr bo
 subst bo
 rw [if_neg nf_] at H
 obtain ⟨cl,H⟩:=fc_ H
 have bp:=de_ cl
 have bq:decide (0 < l0.length)=true:=de_ (by omega)
 clear cl
 obtain ⟨cm,H⟩:=fc_ H
 have br:=de_ cm
 have bs:decide (1 < l0.length)=true:=de_ (by omega)
 clear cm
 obtain ⟨bu,H⟩:=fc_ H
 have bv:=eq_true bu
 have bw:=de_ bu
 try have bx:(9223372036854775807 < (rdOf ByteArray.empty l0 0).size+(rdOf ByteArray.empty l0 1).size)=False:=eq_false (Nat.not_lt.2 bu)
 clear bu
 obtain ⟨ac,ba⟩:∃ y_:ByteArray,((rdOf ByteArray.empty l0 0)++(rdOf ByteArray.empty l0 1))=y_:=⟨_,rfl⟩
 replace H:(spec_ReadStates.l0 kj2 l0 a1 ac (([]:List Int)) 0)=some (r1,r2):=by rw [← ba];exact (Option.bind_some _ _).symm.trans H
 (try simp only [Int.toNat_natCast] at ba)
 obtain ⟨bz,au⟩:∃ y_:List Int,y_=(([]:List Int)):=⟨_,rfl⟩
 replace H:(spec_ReadStates.l0 kj2 l0 a1 ac bz 0)=some (r1,r2):=rh_ au H
 have ag:=m_ au
 clear au
 have H':=m_ H
 clear H
 have b4:0≤(0:Int):=(by omega)
 have b5:0 < (l0.length:Int):=od_ tq_2
 obtain ⟨ca,cn,a8⟩:=Kd.at_string HR0.out 0 b4 b5
 cases cn
 have cv:(0 < l0.length)=True:=eq_true (by omega)
 (try rw [show ((0:Int)).toNat=0 from rfl] at a8)
 (try rw [Addr.add_zero'] at a8)
 replace a8:=hx_ HB.out a8
 replace b4:=eq_true b4
 replace b5:=eq_true b5
 have b6:0≤(1:Int):=(by omega)
 have b7:1 < (l0.length:Int):=od_ tq_2
 obtain ⟨cb,co,a9⟩:=Kd.at_string HR0.out 1 b6 b7
 obtain rfl:ca=cb:=(by injection co)
 (try simp only [show (1:Int).toNat=1 from rfl,Nat.reduceMul,Nat.reduceEqDiff,Go.Addr.add,↓reduceIte] at a9)
 have cw:(1 < l0.length)=True:=eq_true (by omega)
 (try rw [show ((1:Int)).toNat=1 from rfl] at a9)
 replace a9:=hx_ HB.out a9
 replace b6:=eq_true b6
 replace b7:=eq_true b7
 go_wp2_with (first|((with_reducible refine gate_dst (N:=39) rfl ?_);(try (refine gate_guard (by rfl) ?_;dsimp only));refine Kd.R_lit (Kd.int .i64) _ 3 ?hg (N:=39) ?hd (xs:=([]:List Int)) (inner:=[]) (ok:=fun _=>True) (okp:=fun _=>True) ?hr ?hp (fun _ hk=>hk) trivial (Below.refl _ _) (Nat.le_refl _) (by simp) ?_;(case hd=>rfl);(case hg=>rfl);(case hr=>first|(go_simp;done)|(go_simp;rfl));(case hp=>exact (Reps.none _ _));intro v184 cx ho17 hb hg_ hnew_;clear hg_ hnew_;(first|rw [← ag.out] at ho17|(simp only [Int.reduceToNat] at ho17;rw [← ag.out] at ho17));have z_:=p_ (Kd.R_lower ho17 (below_size th_)) <| a_ (below_step th_ hb);clear HB;obtain ⟨av,HB⟩:=z_;clear hb ho17))
 repeat (go_quiet (first|((with_reducible refine gate_dst (N:=39) rfl ?_);(try (refine gate_guard (by rfl) ?_;dsimp only));refine Kd.R_lit (Kd.int .i64) _ 3 ?hg (N:=39) ?hd (xs:=([]:List Int)) (inner:=[]) (ok:=fun _=>True) (okp:=fun _=>True) ?hr ?hp (fun _ hk=>hk) trivial (Below.refl _ _) (Nat.le_refl _) (by simp) ?_;(case hd=>rfl);(case hg=>rfl);(case hr=>first|(go_simp;done)|(go_simp;rfl));(case hp=>exact (Reps.none _ _));intro v184 cx ho17 hb hg_ hnew_;clear hg_ hnew_;(first|rw [← ag.out] at ho17|(simp only [Int.reduceToNat] at ho17;rw [← ag.out] at ho17));have z_:=p_ (Kd.R_lower ho17 (below_size th_)) <| a_ (below_step th_ hb);clear HB;obtain ⟨av,HB⟩:=z_;clear hb ho17));try go_wp2_with (first|((with_reducible refine gate_dst (N:=39) rfl ?_);(try (refine gate_guard (by rfl) ?_;dsimp only));refine Kd.R_lit (Kd.int .i64) _ 3 ?hg (N:=39) ?hd (xs:=([]:List Int)) (inner:=[]) (ok:=fun _=>True) (okp:=fun _=>True) ?hr ?hp (fun _ hk=>hk) trivial (Below.refl _ _) (Nat.le_refl _) (by simp) ?_;(case hd=>rfl);(case hg=>rfl);(case hr=>first|(go_simp;done)|(go_simp;rfl));(case hp=>exact (Reps.none _ _));intro v184 cx ho17 hb hg_ hnew_;clear hg_ hnew_;(first|rw [← ag.out] at ho17|(simp only [Int.reduceToNat] at ho17;rw [← ag.out] at ho17));have z_:=p_ (Kd.R_lower ho17 (below_size th_)) <| a_ (below_step th_ hb);clear HB;obtain ⟨av,HB⟩:=z_;clear hb ho17)))
 go_loopg [7,8] kj2 (fun kq v7 v8 w'=>∃ (ae:List Int) (a7:Int),v8=.int .i64 a7∧Aside0 (spec_ReadStates.l0 kq l0 a1 ac ae a7=some (r1,r2))∧Aside0 (kq≤kj2)∧Aside0 (Kd.R (Kd.int .i64) 3 w' w.heap.size (fun _=>True) v7 ae)∧Aside0 (Below w.heap.size w w'))
 case atStart=>exact ⟨(bz),(0),tq_3,H',⟨Nat.le_refl _⟩,⟨(raR_ av)⟩,⟨th_⟩⟩
 case round =>
 clear H'
 try clear c1;try clear p1;try clear q1;try clear hx1;try clear d9;try clear c2;try clear p2;try clear c4;try clear ak;try clear bb;try clear c5;try clear bi;try clear bj;try clear c6;try clear bc;try clear bd;try clear c7;try clear bl;try clear bm;try clear c8;try clear be;try clear bf;try clear bo;try clear cl;try clear bp;try clear bq;try clear cm;try clear br;try clear bs;try clear bu;try clear bv;try clear bw;try clear bx;try clear dd;try clear de;try clear hx17;try clear da;try clear a5;try clear a6;try clear a8;try clear a9;try clear p1;try clear aa;try clear ai;try clear b4;try clear b6;try clear p2;try clear q1;try clear ab;try clear aj;try clear b5;try clear b7
 obtain ⟨ae,a7,rfl,HA,cy,HO_7,HB⟩:=hrel
 cases gk with
 | zero=>exact absurd HA.out (by simp [spec_ReadStates.l0])
 | succ k2 =>
 have H:=HA.out
 clear HA
 simp only [spec_ReadStates.l0] at H
 by_cases bh:a7 < a1
 ·rw [if_pos bh] at H
  have cc:=de_ bh
  clear bh
  obtain ⟨cz,H⟩:=fc_ H
  have d0:=de_ cz
  clear cz
  obtain ⟨d1,H⟩:=fc_ H
  have d2:=de_ d1
  clear d1
  obtain ⟨d3,H⟩:=fc_ H
  have aw:=m_ d3
  clear d3
  obtain ⟨cd,ax⟩:∃ y_:List Int,y_=(ae++[wrap64 (bt ac a7)]):=⟨_,rfl⟩
  replace H:(spec_ReadStates.l0 k2 l0 a1 ac cd (wrap64 (a7+1)))=some (r1,r2):=rh_ ax H
  have ay:=m_ ax
  clear ax
  have H':=m_ H
  clear H
  have d4:0≤(a7:Int):=od_ tq_2
  have d5:a7 < (ac.size:Int):=od_ tq_2
  have hx21:=bt_at ac a7
  replace d4:=eq_true d4
  replace d5:=eq_true d5
  go_wp2_with (first|((with_reducible refine gate_builtin (b:=.append) (xs:=#[.tmp 45,.tmp 50]) rfl ?_);(try (refine gate_guard (by rfl) ?_;dsimp only));at_builtin;refine Kd.R_append (Kd.int .i64) (w0:=w) w.heap.size rfl (.tmp 45) (.tmp 50) 28 3 (.int .i64 0) 8 rfl Tryz.underlying28 info3 rfl (by decide) (by omega) u7 ae (wrap64 (bt ac a7)) [.int .i64 (wrap64 (bt ac a7))] (fun _=>True) (fun _=>False) rfl rfl ?aP (fun _ hk=>hk.elim) ?aF ?aO ?aB ?aS ?aL ?_;(case aP=>exact rfl);(case aB=>exact th_);(case aF=>exact (fun _ _=>trivial));(case aO=>exact (raR_ HO_7));(case aS=>exact (below_size th_));(case aL=>have:=aw.out;omega);intro v187 d6 ho hb hg hat;rw [← ay.out] at ho;have z_:=p_ (hb) <| a_ (ho);clear HB HO_7;obtain ⟨HB,az⟩:=z_;clear ho hb hg hat))
  repeat (go_quiet (first|((with_reducible refine gate_builtin (b:=.append) (xs:=#[.tmp 45,.tmp 50]) rfl ?_);(try (refine gate_guard (by rfl) ?_;dsimp only));at_builtin;refine Kd.R_append (Kd.int .i64) (w0:=w) w.heap.size rfl (.tmp 45) (.tmp 50) 28 3 (.int .i64 0) 8 rfl Tryz.underlying28 info3 rfl (by decide) (by omega) u7 ae (wrap64 (bt ac a7)) [.int .i64 (wrap64 (bt ac a7))] (fun _=>True) (fun _=>False) rfl rfl ?aP (fun _ hk=>hk.elim) ?aF ?aO ?aB ?aS ?aL ?_;(case aP=>exact rfl);(case aB=>exact th_);(case aF=>exact (fun _ _=>trivial));(case aO=>exact (raR_ HO_7));(case aS=>exact (below_size th_));(case aL=>have:=aw.out;omega);intro v187 d6 ho hb hg hat;rw [← ay.out] at ho;have z_:=p_ (hb) <| a_ (ho);clear HB HO_7;obtain ⟨HB,az⟩:=z_;clear ho hb hg hat));try go_wp2_with (first|((with_reducible refine gate_builtin (b:=.append) (xs:=#[.tmp 45,.tmp 50]) rfl ?_);(try (refine gate_guard (by rfl) ?_;dsimp only));at_builtin;refine Kd.R_append (Kd.int .i64) (w0:=w) w.heap.size rfl (.tmp 45) (.tmp 50) 28 3 (.int .i64 0) 8 rfl Tryz.underlying28 info3 rfl (by decide) (by omega) u7 ae (wrap64 (bt ac a7)) [.int .i64 (wrap64 (bt ac a7))] (fun _=>True) (fun _=>False) rfl rfl ?aP (fun _ hk=>hk.elim) ?aF ?aO ?aB ?aS ?aL ?_;(case aP=>exact rfl);(case aB=>exact th_);(case aF=>exact (fun _ _=>trivial));(case aO=>exact (raR_ HO_7));(case aS=>exact (below_size th_));(case aL=>have:=aw.out;omega);intro v187 d6 ho hb hg hat;rw [← ay.out] at ho;have z_:=p_ (hb) <| a_ (ho);clear HB HO_7;obtain ⟨HB,az⟩:=z_;clear ho hb hg hat)))
  go_roundg k2
  case measure=>have:=HJ2.out;have:=cy.out;omega
  case rel=>exact ⟨(cd),(wrap64 (a7+1)),tq_3,H',⟨(by have:=HJ2.out;have:=cy.out;omega)⟩,⟨(raR_ az)⟩,⟨th_⟩⟩
 rw [if_neg bh] at H
 have cc:=df_ bh
 clear bh
 obtain ⟨an,cp,H⟩:=bd_ H
 obtain ⟨b8,cq,H⟩:=bd_ H
 have ce:=m_ H
 clear H
 obtain ⟨db,dc,cr⟩:=Kd.R_slice HO_7.out
 subst cr
 go_upto_if 56 with (first|(go_at_call 46;(with_reducible refine (spec_StatesWords.calls k2 _ _ ae an _ ?side1 ?side2 cp.out).mono ?_);(case side1=>exact tq_15);(case side2=>exact (Kd.R_reads' HO_7.out).2.1);rintro e d7 ⟨v190,rfl,ho0,hb⟩;have z_:=p_ (Kd.R_below (raR_ HO_7) hb) <| p_ (Kd.R_lower ho0 (below_size th_)) <| a_ (below_step th_ hb);clear HO_7 HB;obtain ⟨HO_7,HO191,HB⟩:=z_;(try clear hb);(try clear hk);(try clear ho0);obtain ⟨cf,cg,b0⟩:=Kd.R_slice HO191.out;subst b0)|(go_at_call 45;(with_reducible refine (spec_l12Words.calls k2 _ _ an _ _ l0 b8 _ ?side1 ?side2 ?side3 ?side4 cq.out).mono ?_);(case side1=>exact tq_65);(case side2=>exact (Kd.R_reads' HO191.out).2.1);(case side3=>exact tq_11);(case side4=>exact ci.out);rintro e w' ⟨rfl,⟨nd,rfl⟩⟩;(try first|exact ⟨rfl,_,World.drewN_drewN _ _ _⟩|exact ⟨rfl,_,Eq.trans (World.drewN_drewN _ _ _) (congrArg (World.drewN _) (Nat.add_assoc _ _ _))⟩)))
 repeat (go_quiet (first|(go_at_call 46;(with_reducible refine (spec_StatesWords.calls k2 _ _ ae an _ ?side1 ?side2 cp.out).mono ?_);(case side1=>exact tq_15);(case side2=>exact (Kd.R_reads' HO_7.out).2.1);rintro e d7 ⟨v190,rfl,ho0,hb⟩;have z_:=p_ (Kd.R_below (raR_ HO_7) hb) <| p_ (Kd.R_lower ho0 (below_size th_)) <| a_ (below_step th_ hb);clear HO_7 HB;obtain ⟨HO_7,HO191,HB⟩:=z_;(try clear hb);(try clear ho0);obtain ⟨cf,cg,b0⟩:=Kd.R_slice HO191.out;subst b0)|(go_at_call 45;(with_reducible refine (spec_l12Words.calls k2 _ _ an _ _ l0 b8 _ ?side1 ?side2 ?side3 ?side4 cq.out).mono ?_);(case side1=>exact tq_65);(case side2=>exact (Kd.R_reads' HO191.out).2.1);(case side3=>exact tq_11);(case side4=>exact ci.out);rintro e w' ⟨rfl,⟨nd,rfl⟩⟩;(try first|exact ⟨rfl,_,World.drewN_drewN _ _ _⟩|exact ⟨rfl,_,Eq.trans (World.drewN_drewN _ _ _) (congrArg (World.drewN _) (Nat.add_assoc _ _ _))⟩)));go_upto_if 56 with (first|(go_at_call 46;(with_reducible refine (spec_StatesWords.calls k2 _ _ ae an _ ?side1 ?side2 cp.out).mono ?_);(case side1=>exact tq_15);(case side2=>exact (Kd.R_reads' HO_7.out).2.1);rintro e d7 ⟨v190,rfl,ho0,hb⟩;have z_:=p_ (Kd.R_below (raR_ HO_7) hb) <| p_ (Kd.R_lower ho0 (below_size th_)) <| a_ (below_step th_ hb);clear HO_7 HB;obtain ⟨HO_7,HO191,HB⟩:=z_;(try clear hb);(try clear ho0);obtain ⟨cf,cg,b0⟩:=Kd.R_slice HO191.out;subst b0)|(go_at_call 45;(with_reducible refine (spec_l12Words.calls k2 _ _ an _ _ l0 b8 _ ?side1 ?side2 ?side3 ?side4 cq.out).mono ?_);(case side1=>exact tq_65);(case side2=>exact (Kd.R_reads' HO191.out).2.1);(case side3=>exact tq_11);(case side4=>exact ci.out);rintro e w' ⟨rfl,⟨nd,rfl⟩⟩;(try first|exact ⟨rfl,_,World.drewN_drewN _ _ _⟩|exact ⟨rfl,_,Eq.trans (World.drewN_drewN _ _ _) (congrArg (World.drewN _) (Nat.add_assoc _ _ _))⟩))))
 (try simp only [Act.put,List.setIfInBounds_toArray,List.set_cons_zero,List.set_cons_succ])
 have H:=ce.out
 clear ce
 by_cases ch:b8=true
 ·subst ch
  rw [if_pos rfl] at H
  simp only [Option.some.injEq,Prod.mk.injEq] at H
  obtain ⟨rfl,rfl⟩:=H
  go_wp2
  repeat (go_quiet (fail);try go_wp2)
  go_ret2
  exact ⟨_,tq_1,(raR_ HO_7),th_⟩
 replace ch:=Bool.eq_false_iff.mpr ch
 subst ch
 rw [if_neg nf_] at H
 obtain ⟨ct,b1⟩:∃ y_:List Int,y_=(([]:List Int)):=⟨_,rfl⟩
 replace H:(some (ct,false))=some (r1,r2):=rh_ b1 H
 have ah:=m_ b1
 clear b1
 simp only [Option.some.injEq,Prod.mk.injEq] at H
 obtain ⟨rfl,rfl⟩:=H
 go_wp2_with (first|((with_reducible refine gate_dst (N:=57) rfl ?_);(try (refine gate_guard (by rfl) ?_;dsimp only));refine Kd.R_lit (Kd.int .i64) _ 3 ?hg (N:=57) ?hd (xs:=([]:List Int)) (inner:=[]) (ok:=fun _=>True) (okp:=fun _=>True) ?hr ?hp (fun _ hk=>hk) trivial (Below.refl _ _) (Nat.le_refl _) (by simp) ?_;(case hd=>rfl);(case hg=>rfl);(case hr=>first|(go_simp;done)|(go_simp;rfl));(case hp=>exact (Reps.none _ _));intro v194 d8 ho32 hb hg_ hnew_;clear hg_ hnew_;(first|rw [← ah.out] at ho32|(simp only [Int.reduceToNat] at ho32;rw [← ah.out] at ho32));have z_:=p_ (Kd.R_elder' (raR_ HO_7) (Kd.R_base ho32) hb) <| p_ (Kd.R_below (raR_ HO191) hb) <| p_ (Kd.R_lower (Kd.R_new' ho32 (Kd.R_lt (raR_ HO_7))) (below_size th_)) <| a_ (below_step th_ hb);clear HO_7 HO191 HB;obtain ⟨HO_7,HO191,b2,HB⟩:=z_;clear hb ho32))
 repeat (go_quiet (first|((with_reducible refine gate_dst (N:=57) rfl ?_);(try (refine gate_guard (by rfl) ?_;dsimp only));refine Kd.R_lit (Kd.int .i64) _ 3 ?hg (N:=57) ?hd (xs:=([]:List Int)) (inner:=[]) (ok:=fun _=>True) (okp:=fun _=>True) ?hr ?hp (fun _ hk=>hk) trivial (Below.refl _ _) (Nat.le_refl _) (by simp) ?_;(case hd=>rfl);(case hg=>rfl);(case hr=>first|(go_simp;done)|(go_simp;rfl));(case hp=>exact (Reps.none _ _));intro v194 d8 ho32 hb hg_ hnew_;clear hg_ hnew_;(first|rw [← ah.out] at ho32|(simp only [Int.reduceToNat] at ho32;rw [← ah.out] at ho32));have z_:=p_ (Kd.R_elder' (raR_ HO_7) (Kd.R_base ho32) hb) <| p_ (Kd.R_below (raR_ HO191) hb) <| p_ (Kd.R_lower (Kd.R_new' ho32 (Kd.R_lt (raR_ HO_7))) (below_size th_)) <| a_ (below_step th_ hb);clear HO_7 HO191 HB;obtain ⟨HO_7,HO191,b2,HB⟩:=z_;clear hb ho32));try go_wp2_with (first|((with_reducible refine gate_dst (N:=57) rfl ?_);(try (refine gate_guard (by rfl) ?_;dsimp only));refine Kd.R_lit (Kd.int .i64) _ 3 ?hg (N:=57) ?hd (xs:=([]:List Int)) (inner:=[]) (ok:=fun _=>True) (okp:=fun _=>True) ?hr ?hp (fun _ hk=>hk) trivial (Below.refl _ _) (Nat.le_refl _) (by simp) ?_;(case hd=>rfl);(case hg=>rfl);(case hr=>first|(go_simp;done)|(go_simp;rfl));(case hp=>exact (Reps.none _ _));intro v194 d8 ho32 hb hg_ hnew_;clear hg_ hnew_;(first|rw [← ah.out] at ho32|(simp only [Int.reduceToNat] at ho32;rw [← ah.out] at ho32));have z_:=p_ (Kd.R_elder' (raR_ HO_7) (Kd.R_base ho32) hb) <| p_ (Kd.R_below (raR_ HO191) hb) <| p_ (Kd.R_lower (Kd.R_new' ho32 (Kd.R_lt (raR_ HO_7))) (below_size th_)) <| a_ (below_step th_ hb);clear HO_7 HO191 HB;obtain ⟨HO_7,HO191,b2,HB⟩:=z_;clear hb ho32)))
 go_ret2
 exact ⟨_,tq_1,(by (with_reducible repeat (first|apply Kd.R_alloc|apply Kd.R_drewN|apply Kd.R_drew));exact Kd.R_mono b2.out (fun _ hk=>trivial)),th_⟩

def spec_l14Words.l0:Nat→Int→Int→List ByteArray→Int→ByteArray→List (S78)→Option (List ByteArray)
 | 0,_,_,_,_,_,_=>none
 | k+1,x1,x2,x7,x8,a5,a6=>if x8 < x2 then ((spec_WordAt.f k a5 a6 (wrap64 (x1+x8))).bind fun a7=>(if x7.length < 8796093022208 then (spec_l14Words.l0 k x1 x2 (x7++[a7]) (wrap64 (x8+1)) a5 a6) else (none))) else (some x7)
def spec_l14Words.f (k:Nat) (a5:ByteArray) (a6:List (S78)) (a1:Int) (a2:Int):Option (List ByteArray):=spec_l14Words.l0 k a1 a2 (([]:List ByteArray)) 0 a5 a6
theorem spec_l14Words.calls (k:Nat) (a7:ByteArray) (a8:Option Addr) (a9:Nat) (a6:List (S78)) (a1:Int) (a2:Int) (r:List ByteArray) (w:World) (af:Kd.C k78 w a8 a6.length a6) (ag:a6.length≤a9) (h:spec_l14Words.f k a7 a6 a1 a2=some r) :
  Calls Tryz.prog 23 #[.agg #[.string a7,.slice a8 a6.length a9],.int .i64 a1,.int .i64 a2] w fun e w'=>∃ v0_:Value,e=.returned (v0_)∧Kd.R Kd.string 9 w' w.heap.size (fun _=>True) v0_ r∧Below w.heap.size w w':=by
 have hu36:=Tryz.underlying36
 have HR0_1:=m_ af
 have aj:=m_ ag
 clear af ag
 have HB:=m_ (Below.refl w.heap.size w)
 unfold spec_l14Words.f at h
 have H:=h
 clear h
 obtain ⟨ak,aa⟩:∃ y_:List ByteArray,y_=(([]:List ByteArray)):=⟨_,rfl⟩
 replace H:(spec_l14Words.l0 k a1 a2 ak 0 a7 a6)=some r:=rh_ aa H
 have ah:=m_ aa
 clear aa
 have H':=m_ H
 clear H
 go_enter Tryz.func23,Tryz.ntmps23
 go_wp2_with (first|((with_reducible refine gate_dst (N:=3) rfl ?_);refine be_ 3 (cs:=#[.string a7,.slice a8 a6.length a9]) 36 ?_;intro ai hg w4 hbox hb;have z_:=bx0_ th_ hb hbox hg;clear HB;obtain ⟨HB,a5,ar,au⟩:=z_;clear hb hbox hg)|((with_reducible refine gate_dst (N:=9) rfl ?_);refine Kd.R_lit Kd.string _ 9 ?hg (N:=9) ?hd (xs:=([]:List ByteArray)) (inner:=[]) (ok:=fun _=>True) (okp:=fun _=>True) ?hr ?hp (fun _ hk=>hk) trivial (Below.refl _ _) (Nat.le_refl _) (by simp) ?_;(case hd=>rfl);(case hg=>rfl);(case hr=>first|(go_simp;done)|(go_simp;rfl));(case hp=>exact (Reps.none _ _));intro v198 w5 ho6 hb hg_ hnew_;clear hg_ hnew_;(first|rw [← ah.out] at ho6|(simp only [Int.reduceToNat] at ho6;rw [← ah.out] at ho6));have z_:=p_ (Kd.R_lower ho6 (below_size th_)) <| bw1_ (kb_ a5) th_ hb;clear a5 HB;obtain ⟨al,a5,HB⟩:=z_;clear hb ho6))
 go_loopg [7,8] k (fun kq v7 v8 w'=>∃ (ab:List ByteArray) (x8_1:Int),v8=.int .i64 x8_1∧Aside0 (spec_l14Words.l0 kq a1 a2 ab x8_1 a7 a6=some r)∧Aside0 (kq≤k)∧Aside0 (Kd.R Kd.string 9 w' w.heap.size (fun _=>True) v7 ab)∧Aside0 (w'.heap[ai]?=some (.cells #[.string a7,(.slice a8 a6.length a9)] 36 (0,0)))∧Aside0 (Below w.heap.size w w'))
 case atStart=>exact ⟨(ak),(0),tq_3,H',⟨Nat.le_refl _⟩,⟨(raR_ al)⟩,⟨(kb_ a5)⟩,⟨th_⟩⟩
 case round =>
 clear H'
 try clear c2;try clear p2
 obtain ⟨ab,x8_1,rfl,HA,HK1,HO_7,a5,HB⟩:=hrel
 cases gk with
 | zero=>exact absurd HA.out (by simp [spec_l14Words.l0])
 | succ k1 =>
 have H:=HA.out
 clear HA
 simp only [spec_l14Words.l0] at H
 by_cases c7:x8_1 < a2
 rotate_left
 ·rw [if_neg c7] at H
  have ap:=df_ c7
  clear c7
  obtain rfl:=oi_ H
  go_wp2
  go_ret
  exact ⟨_,tq_1,(raR_ HO_7),th_⟩
 rw [if_pos c7] at H
 have ap:=de_ c7
 clear c7
 obtain ⟨ae,A8,H⟩:=bd_ H
 obtain ⟨c9,H⟩:=fc_ H
 have aq:=m_ c9
 clear c9
 obtain ⟨am,ac⟩:∃ y_:List ByteArray,y_=(ab++[ae]):=⟨_,rfl⟩
 replace H:(spec_l14Words.l0 k1 a1 a2 am (wrap64 (x8_1+1)) a7 a6)=some r:=rh_ ac H
 have an:=m_ ac
 clear ac
 have H':=m_ H
 clear H
 have av:=bb2_ a5.out
 go_wp2_with (first|((with_reducible refine gate_callee (f:=19) rfl ?_);refine goesL_ (some 20) rfl rfl Tryz.func19 kr_ rfl #[.agg #[.string a7,.slice a8 a6.length a9],.int .i64 (wrap64 (a1+x8_1))] rfl tq_0 ?_;(with_reducible refine (spec_WordAt.calls k1 a7 _ _ a6 (wrap64 (a1+x8_1)) ae _ ?side1 ?side2 A8.out).mono ?_);(case side1=>exact tq_4);(case side2=>exact aj.out);rintro e aw ⟨rfl,hb⟩;refine ⟨_,rfl,?_⟩;have z_:=p_ (Kd.R_below (raR_ HO_7) hb) <| bw1_ (kb_ a5) th_ hb;clear HO_7 a5 HB;obtain ⟨HO_7,a5,HB⟩:=z_;(try clear hb))|((with_reducible refine gate_builtin (b:=.append) (xs:=#[.tmp 15,.tmp 21]) rfl ?_);at_builtin;refine Kd.R_append Kd.string (w0:=w) w.heap.size rfl (.tmp 15) (.tmp 21) 55 9 (.string ⟨#[]⟩) 16 rfl Tryz.underlying55 info9 rfl (by decide) (by omega) u7 ab ae [.string ae] (fun _=>True) (fun _=>False) rfl rfl ?aP (fun _ hk=>hk.elim) ?aF ?aO ?aB ?aS ?aL ?_;(case aP=>exact rfl);(case aB=>exact th_);(case aF=>exact (fun _ _=>trivial));(case aO=>exact (raR_ HO_7));(case aS=>exact (below_size th_));(case aL=>have:=aq.out;omega);intro v202 ax ho hb hg hat;rw [← an.out] at ho;have z_:=p_ (blk_grown (g:=ai) (o:=.cells #[.string a7,.slice a8 a6.length a9] 36 (0,0)) (kb_ a5) hg (Kd.R_ne HO_7.out a5.out (by decide))) <| p_ (hb) <| a_ (ho);clear a5 HB HO_7;obtain ⟨a5,HB,ao⟩:=z_;clear ho hb hg hat))
 go_roundg k1
 case measure=>have:=HK1.out;omega
 case rel=>exact ⟨(am),(wrap64 (x8_1+1)),tq_3,H',⟨tq_14⟩,⟨(raR_ ao)⟩,⟨(kb_ a5)⟩,⟨th_⟩⟩

def spec_l01Long.l0:Nat→Int→Int→List Int→Int→Option (ByteArray)
 | 0,_,_,_,_=>none
 | k+1,x0,x1,x5,x6=>if x6 < x0 then (if 0≤x6 then (if x6 < (x5.length:Int) then (spec_l01Long.l0 k x0 x1 (x5.set (x6:Int).toNat x1) (wrap64 (x6+1))) else (none)) else (none)) else (some (strOfNums x5))
def spec_l01Long.f (k:Nat) (a0:Int) (a1:Int):Option (ByteArray):=if 0≤a0 then (if (a0:Int).toNat≤281474976710656 then (spec_l01Long.l0 k a0 a1 (List.replicate (a0:Int).toNat 0) 0) else (none)) else (none)
theorem spec_l01Long.calls (k:Nat) (a0:Int) (a1:Int) (r:ByteArray) (w:World) (h:spec_l01Long.f k a0 a1=some r) :
  Calls Tryz.prog 75 #[.int .i64 a0,.int .u8 a1] w fun e w'=>e=.returned (.string r)∧Below w.heap.size w w':=by
 have HB:=m_ (Below.refl w.heap.size w)
 unfold spec_l01Long.f at h
 have H:=h
 clear h
 obtain ⟨c3,H⟩:=fc_ H
 have ak:=eq_true c3
 have al:=de_ c3
 clear c3
 obtain ⟨c4,H⟩:=fc_ H
 have am:=eq_true c4
 have an:=de_ c4
 clear c4
 obtain ⟨ae,a8⟩:∃ y_:List Int,y_=(List.replicate (a0:Int).toNat 0):=⟨_,rfl⟩
 replace H:(spec_l01Long.l0 k a0 a1 ae 0)=some r:=rh_ a8 H
 have aa:=m_ a8
 clear a8
 have H':=m_ H
 clear H
 go_enter Tryz.func75,Tryz.ntmps75
 go_wp2_with (first|((with_reducible refine gate_dst (N:=8) rfl ?_);refine Kd.R_make (Kd.int .u8) _ 5 rfl (N:=8) rfl 101 _ _ rfl a0 rfl rfl Tryz.underlying101 (.int .u8 0) 1 info5 rfl (by decide) (by omega) 0 (ok:=fun _=>True) (okp:=fun _=>True) rfl (fun _ hk=>hk) trivial (od_ tq_2) (Nat.le_trans (Nat.mul_le_mul_right _ (od_ tq_2:a0.toNat≤281474976710656)) (by omega)) (Below.refl _ _) (Nat.le_refl _) ?_;intro v205 w5 ho6 hb hg_ hnew_;clear hg_ hnew_;(first|rw [← aa.out] at ho6|(simp only [Int.reduceToNat] at ho6;rw [← aa.out] at ho6));have z_:=p_ (Kd.R_lower ho6 (below_size th_)) <| a_ (below_step th_ hb);clear HB;obtain ⟨af,HB⟩:=z_;clear hb ho6))
 go_loopg [6] k (fun kq v6 w'=>∃ (a7:List Int) (a5:Int),v6=.int .i64 a5∧Aside0 (spec_l01Long.l0 kq a0 a1 a7 a5=some r)∧Aside0 (kq≤k)∧Aside0 (Kd.R (Kd.int .u8) 5 w' w.heap.size (fun _=>True) v205 a7)∧Aside0 (Below w.heap.size w w'))
 case atStart=>exact ⟨(ae),(0),tq_3,H',⟨Nat.le_refl _⟩,⟨(raR_ af)⟩,⟨th_⟩⟩
 case round =>
 clear H'
 try clear p2;try clear c3;try clear ak;try clear al;try clear c4;try clear am;try clear an
 obtain ⟨a7,a5,rfl,HA,HK1,a6,HB⟩:=hrel
 cases gk with
 | zero=>exact absurd HA.out (by simp [spec_l01Long.l0])
 | succ k1 =>
 have H:=HA.out
 clear HA
 simp only [spec_l01Long.l0] at H
 by_cases c7:a5 < a0
 rotate_left
 ·rw [if_neg c7] at H
  have ao:=df_ c7
  clear c7
  obtain rfl:=oi_ H
  have hcv13:=own_string (P:=Tryz.prog) Tryz.underlying101 Tryz.underlying5 Tryz.underlying9 (Kd.own_of_R a6.out)
  go_wp2
  go_ret
  exact ⟨tq_1,th_⟩
 rw [if_pos c7] at H
 have ao:=de_ c7
 clear c7
 obtain ⟨c8,H⟩:=fc_ H
 have az:=de_ c8
 clear c8
 obtain ⟨c9,H⟩:=fc_ H
 have b0:=de_ c9
 clear c9
 obtain ⟨ab,a9⟩:∃ y_:List Int,y_=(a7.set (a5:Int).toNat a1):=⟨_,rfl⟩
 replace H:(spec_l01Long.l0 k1 a0 a1 ab (wrap64 (a5+1)))=some r:=rh_ a9 H
 have ag:=m_ a9
 clear a9
 have H':=m_ H
 clear H
 have ap:0≤(a5:Int):=od_ tq_2
 have aq:(a5:Int) < ((a7.length:Int):Int):=od_ tq_2
 obtain ⟨ac,ar,ah,ai,au,b1,aj⟩:=Kd.R_form a6.out (by omega)
 (first|cases ah|(injection ah with ea_ en_ ec_;(first|subst ea_|(injection ea_ with ea_;subst ea_));subst ec_;clear en_))
 have av:=m_ ai
 have b2:=m_ aj
 clear ai au aj
 obtain ⟨aw,ax⟩:=Kd.R_celln 0 a6.out (a5:Int) ap aq
 replace ap:=eq_true ap
 replace aq:=eq_true aq
 have HP11:=Kd.R_putg a6.out (a5:Int) a1
 go_wp2_with (first|((with_reducible refine gate_store (t:=5) (p:=17) rfl ?_);refine store_event (t:=5) (p:=17) (v:=?vo_w12) (w1:=(wr.setCell ⟨ac,(a5:Int).toNat,none⟩ (.int .u8 a1))) ?hg ?ho ?hn ?hr ?_;(case ho=>rfl);(case hg=>rfl);(case hn=>rfl);(case hr=>first|(go_simp;done)|(go_simp;rfl));intro ay hw;have hg:wr.grownBy ay (some ac):=(by rw [hw];exact HP11.2);have hp_:Kd.R (Kd.int .u8) 5 ay w.heap.size (fun _=>True) (.slice (some ⟨ac,0,none⟩) a7.length ar) ab:=(by rw [hw,ag.out];exact HP11.1);clear HP11;have z_:=p_ (hp_) <| a_ ((by rw [hw];exact below_set (HB.out) av.out:Below w.heap.size w ay));clear a6 HB;obtain ⟨a6,HB⟩:=z_;clear hg hw hp_))
 go_roundg k1
 case measure=>have:=HK1.out;omega
 case rel=>exact ⟨(ab),(wrap64 (a5+1)),tq_3,H',⟨tq_14⟩,⟨(raR_ a6)⟩,⟨th_⟩⟩

def spec_ZeroText.f (k:Nat) (a0:Int):Option (ByteArray):=(spec_l01In.f a0 0 20000).bind fun a5=>(if a5=true then ((spec_l01Long.f k a0 0).bind fun a6=>(some a6)) else (some (⟨#[]⟩:ByteArray)))
theorem spec_ZeroText.calls (k:Nat) (a0:Int) (r:ByteArray) (w:World) (h:spec_ZeroText.f k a0=some r) :
  Calls Tryz.prog 49 #[.int .i64 a0] w fun e w'=>e=.returned (.string r)∧Below w.heap.size w w':=by
 have HB:=m_ (Below.refl w.heap.size w)
 unfold spec_ZeroText.f at h
 have H:=h
 clear h
 obtain ⟨a5,A2,H⟩:=bd_ H
 have a7:=m_ H
 clear H
 go_enter Tryz.func49,Tryz.ntmps49
 go_upto_if 5 with (first|((with_reducible refine gate_callee (f:=42) rfl ?_);refine goesL_ (some 4) rfl rfl Tryz.func42 kr_ rfl #[.int .i64 a0,.int .i64 0,.int .i64 20000] rfl tq_0 ?_;(with_reducible refine (spec_l01In.calls a0 0 20000 a5 _ A2.out).mono ?_);rintro e w' ⟨rfl,⟨nd,rfl⟩⟩;refine ⟨_,rfl,?_⟩))
 (try simp only [Act.put,List.setIfInBounds_toArray,List.set_cons_zero,List.set_cons_succ])
 have H:=a7.out
 clear a7
 by_cases c4:a5=true
 rotate_left
 ·replace c4:=Bool.eq_false_iff.mpr c4
  subst c4
  rw [if_neg nf_] at H
  obtain rfl:=oi_ H
  go_wp2
  go_ret
  exact ⟨tq_1,th_⟩
 subst c4
 rw [if_pos rfl] at H
 obtain ⟨a6,A5,H⟩:=bd_ H
 obtain rfl:=oi_ H
 go_wp2_with (first|((with_reducible refine gate_callee (f:=75) rfl ?_);refine goesL_ (some 7) rfl rfl Tryz.func75 kr_ rfl #[.int .i64 a0,.int .u8 0] rfl tq_0 ?_;(with_reducible refine (spec_l01Long.calls k a0 0 a6 _ A5.out).mono ?_);rintro e w6 ⟨rfl,hb⟩;refine ⟨_,rfl,?_⟩;have n0_:=m_ (below_step th_ hb);clear HB;have HB:=n0_;clear n0_;(try clear hb)))
 go_ret
 exact ⟨tq_1,th_⟩

def spec_WordText.f (k:Nat) (a0:ByteArray):Option (ByteArray):=if (a0.size:Int) > 8 then (some (⟨#[]⟩:ByteArray)) else ((spec_ZeroText.f k ((8 - (a0.size:Int)))).bind fun a5=>(if a0.size+a5.size≤9223372036854775807 then (some (a0++a5)) else (none)))
theorem spec_WordText.calls (k:Nat) (a0:ByteArray) (r:ByteArray) (w:World) (h:spec_WordText.f k a0=some r) :
  Calls Tryz.prog 47 #[.string a0] w fun e w'=>e=.returned (.string r)∧Below w.heap.size w w':=by
 have HB:=m_ (Below.refl w.heap.size w)
 unfold spec_WordText.f at h
 have H:=h
 clear h
 by_cases c2:(a0.size:Int) > 8
 ·rw [if_pos c2] at H
  have a6:=de_ c2
  have a7:decide (8 < a0.size)=true:=de_ (by omega)
  clear c2
  obtain rfl:=oi_ H
  go_enter Tryz.func47,Tryz.ntmps47
  go_wp2
  go_ret
  exact ⟨tq_1,th_⟩
 rw [if_neg c2] at H
 have a6:=df_ c2
 have a7:decide (8 < a0.size)=false:=df_ (by omega)
 clear c2
 obtain ⟨a5,A3,H⟩:=bd_ H
 obtain ⟨c4,H⟩:=fc_ H
 have a8:=eq_true c4
 have a9:=de_ c4
 try have aa:(9223372036854775807 < a0.size+a5.size)=False:=eq_false (Nat.not_lt.2 c4)
 obtain rfl:=oi_ H
 go_enter Tryz.func47,Tryz.ntmps47
 go_wp2_with (first|((with_reducible refine gate_callee (f:=49) rfl ?_);refine goesL_ (some 10) rfl rfl Tryz.func49 kr_ rfl #[.int .i64 ((8 - (a0.size:Int)))] rfl tq_0 ?_;(with_reducible refine (spec_ZeroText.calls k ((8 - (a0.size:Int))) a5 _ A3.out).mono ?_);rintro e w5 ⟨rfl,hb⟩;refine ⟨_,rfl,?_⟩;have n0_:=m_ (below_step th_ hb);clear HB;have HB:=n0_;clear n0_;(try clear hb)))
 go_ret
 exact ⟨tq_1,th_⟩

mutual
def spec_NumText.j0:Nat→Int→Int→Bool→Option (ByteArray)
 | 0,_,_,_=>none
 | k+1,x0,x1,a5=>if a5=true then (some (⟨#[]⟩:ByteArray)) else (spec_NumText.l0 k x0 (([]:List Int)) (wrap64 (x1 - 1)))
def spec_NumText.l0:Nat→Int→List Int→Int→Option (ByteArray)
 | 0,_,_,_=>none
 | k+1,x0,x5,x6=>if x6 ≥ 0 then (if 0≤(IntKind.u64.wrap (8 * (IntKind.u64.wrap (x6)))) then (if x5.length < 140737488355328 then (spec_NumText.l0 k x0 (x5++[(shr .i64 x0 (IntKind.u64.wrap (8 * (IntKind.u64.wrap (x6))))) % 256]) (wrap64 (x6 - 1))) else (none)) else (none)) else (some (strOfNums x5))
end
def spec_NumText.f (k:Nat) (a0:Int) (a1:Int):Option (ByteArray):=if a0 < 0 then (spec_NumText.j0 k a0 a1 true) else ((spec_l01In.f a1 1 7).bind fun a5=>(if a5=true then (if 0≤(IntKind.u64.wrap (8 * (IntKind.u64.wrap (a1)))) then (spec_NumText.j0 k a0 a1 (decide ((shr .i64 a0 (IntKind.u64.wrap (8 * (IntKind.u64.wrap (a1))))) > 0))) else (none)) else (spec_NumText.j0 k a0 a1 true)))
theorem spec_NumText.calls (k:Nat) (a0:Int) (a1:Int) (r:ByteArray) (w:World) (h:spec_NumText.f k a0 a1=some r) :
  Calls Tryz.prog 48 #[.int .i64 a0,.int .i64 a1] w fun e w'=>e=.returned (.string r)∧Below w.heap.size w w':=by
 have HB:=m_ (Below.refl w.heap.size w)
 unfold spec_NumText.f at h
 have H:=h
 clear h
 have ap:=m_ H
 clear H
 go_enter Tryz.func48,Tryz.ntmps48
 go_upto_region 1 with (fail)
 go_cut [21] (fun v21 wc=>∃ (kq:Nat) (a8:Bool),v21=.bool a8∧Aside0 (spec_NumText.j0 kq a0 a1 a8=some r)∧Aside0 (kq≤k)∧Aside0 (Below w.heap.size w wc))
 case first =>
  have H:=ap.out
  clear ap
  by_cases c4:a0 < 0
  ·rw [if_pos c4] at H
   have a7:=de_ c4
   clear c4
   (first|rw [a7]|(simp only [i64_w,i32_w];rw [a7])|skip)
   have H':=m_ H
   clear H
   go_wp2
   go_meet
   case rel=>exact ⟨_,(true),tq_3,H',⟨tq_12⟩,⟨th_⟩⟩
  rw [if_neg c4] at H
  have a7:=df_ c4
  clear c4
  (first|rw [a7]|(simp only [i64_w,i32_w];rw [a7])|skip)
  obtain ⟨aq,A5,H⟩:=bd_ H
  by_cases c6:aq=true
  rotate_left
  ·replace c6:=Bool.eq_false_iff.mpr c6
   subst c6
   rw [if_neg nf_] at H
   have H':=m_ H
   clear H
   go_wp2_with (first|(go_at_call 42;(with_reducible refine (spec_l01In.calls a1 1 7 false _ A5.out).mono ?_);rintro e w' ⟨rfl,⟨nd,rfl⟩⟩))
   go_meet
   case rel=>exact ⟨_,(true),tq_3,H',⟨tq_12⟩,⟨th_⟩⟩
  subst c6
  rw [if_pos rfl] at H
  obtain ⟨ji7,hji7⟩:∃ j_:Int,(IntKind.u64.wrap (8 * (IntKind.u64.wrap (a1))))=j_:=⟨_,rfl⟩
  replace H:(if 0≤(ji7) then (spec_NumText.j0 k a0 a1 (decide ((shr .i64 a0 (ji7)) > 0))) else (none))=some r:=by first|(rw [hji7] at H;exact H)|(simp only [hji7] at H ⊢;exact H)
  (try rw [hji7] at A5)
  obtain ⟨c8,H⟩:=fc_ H
  have af:=eq_true c8
  have ag:=de_ c8
  clear c8
  obtain ⟨ji9,hji9⟩:∃ j_:Int,(shr .i64 a0 (ji7))=j_:=⟨_,rfl⟩
  replace H:(spec_NumText.j0 k a0 a1 (decide ((ji9) > 0)))=some r:=by first|(rw [hji9] at H;exact H)|(simp only [hji9] at H ⊢;exact H)
  (try rw [hji9] at A5)
  have hji9_:(a0 / 2 ^ min (ji7).toNat 64)=ji9:=hji9
  have hji9z:(ji7)≤64→(a0 / 2 ^ (ji7).toNat)=ji9:=shr_small hji9
  have H':=m_ H
  clear H
  go_wp2_with (first|(go_at_call 42;(with_reducible refine (spec_l01In.calls a1 1 7 true _ A5.out).mono ?_);rintro e w' ⟨rfl,⟨nd,rfl⟩⟩))
  go_meet
  case rel=>exact ⟨_,(decide ((ji9) > 0)),(by first|rfl|(simp;done)|(simp only [← hji9] <;> (first|rfl|simp))|(simp [*];done)),H',⟨tq_12⟩,⟨th_⟩⟩
 case rest =>
 clear ap
 try clear p2;try clear c4;try clear a7;try clear c6;try clear c8;try clear af;try clear ag
 obtain ⟨kq,a8,rfl,HA,HJ2,HB⟩:=hcut
 cases kq with
 | zero=>exact absurd HA.out (by simp [spec_NumText.j0])
 | succ kj2 =>
 have H:=HA.out
 clear HA
 simp only [spec_NumText.j0] at H
 by_cases ah:a8=true
 ·subst ah
  rw [if_pos rfl] at H
  obtain rfl:=oi_ H
  go_wp2
  go_ret
  exact ⟨tq_1,th_⟩
 replace ah:=Bool.eq_false_iff.mpr ah
 subst ah
 rw [if_neg nf_] at H
 obtain ⟨ai,a9⟩:∃ y_:List Int,y_=(([]:List Int)):=⟨_,rfl⟩
 replace H:(spec_NumText.l0 kj2 a0 ai (wrap64 (a1 - 1)))=some r:=rh_ a9 H
 have ab:=m_ a9
 clear a9
 have H':=m_ H
 clear H
 go_wp2_with (first|((with_reducible refine gate_dst (N:=22) rfl ?_);refine Kd.R_lit (Kd.int .u8) _ 5 ?hg (N:=22) ?hd (xs:=([]:List Int)) (inner:=[]) (ok:=fun _=>True) (okp:=fun _=>True) ?hr ?hp (fun _ hk=>hk) trivial (Below.refl _ _) (Nat.le_refl _) (by simp) ?_;(case hd=>rfl);(case hg=>rfl);(case hr=>first|(go_simp;done)|(go_simp;rfl));(case hp=>exact (Reps.none _ _));intro v213 ay ho12 hb hg_ hnew_;clear hg_ hnew_;(first|rw [← ab.out] at ho12|(simp only [Int.reduceToNat] at ho12;rw [← ab.out] at ho12));have z_:=p_ (Kd.R_lower ho12 (below_size th_)) <| a_ (below_step th_ hb);clear HB;obtain ⟨aj,HB⟩:=z_;clear hb ho12))
 go_loopg [5,6] kj2 (fun kq v5 v6 w'=>∃ (a5:List Int) (a6:Int),v6=.int .i64 a6∧Aside0 (spec_NumText.l0 kq a0 a5 a6=some r)∧Aside0 (kq≤kj2)∧Aside0 (Kd.R (Kd.int .u8) 5 w' w.heap.size (fun _=>True) v5 a5)∧Aside0 (Below w.heap.size w w'))
 case atStart=>exact ⟨(ai),(wrap64 (a1 - 1)),tq_3,H',⟨Nat.le_refl _⟩,⟨(raR_ aj)⟩,⟨th_⟩⟩
 case round =>
 clear H'
 try clear c1;try clear p2;try clear c4;try clear a7;try clear c6;try clear p6;try clear c8;try clear af;try clear ag;try clear ah;try clear p2
 obtain ⟨a5,a6,rfl,HA,au,ac,HB⟩:=hrel
 cases gk with
 | zero=>exact absurd HA.out (by simp [spec_NumText.l0])
 | succ k2 =>
 have H:=HA.out
 clear HA
 simp only [spec_NumText.l0] at H
 by_cases ae:a6 ≥ 0
 rotate_left
 ·rw [if_neg ae] at H
  have ak:=df_ ae
  clear ae
  obtain rfl:=oi_ H
  have hcv19:=own_string (P:=Tryz.prog) Tryz.underlying101 Tryz.underlying5 Tryz.underlying9 (Kd.own_of_R ac.out)
  go_wp2
  go_ret
  exact ⟨tq_1,th_⟩
 rw [if_pos ae] at H
 have ak:=de_ ae
 clear ae
 obtain ⟨ji14,hji14⟩:∃ j_:Int,(IntKind.u64.wrap (8 * (IntKind.u64.wrap (a6))))=j_:=⟨_,rfl⟩
 replace H:(if 0≤(ji14) then (if a5.length < 140737488355328 then (spec_NumText.l0 k2 a0 (a5++[(shr .i64 a0 (ji14)) % 256]) (wrap64 (a6 - 1))) else (none)) else (none))=some r:=by first|(rw [hji14] at H;exact H)|(simp only [hji14] at H ⊢;exact H)
 obtain ⟨ar,H⟩:=fc_ H
 have av:=eq_true ar
 have aw:=de_ ar
 clear ar
 obtain ⟨ji16,hji16⟩:∃ j_:Int,(shr .i64 a0 (ji14))=j_:=⟨_,rfl⟩
 replace H:(if a5.length < 140737488355328 then (spec_NumText.l0 k2 a0 (a5++[(ji16) % 256]) (wrap64 (a6 - 1))) else (none))=some r:=by first|(rw [hji16] at H;exact H)|(simp only [hji16] at H ⊢;exact H)
 have hji16_:(a0 / 2 ^ min (ji14).toNat 64)=ji16:=hji16
 have hji16z:(ji14)≤64→(a0 / 2 ^ (ji14).toNat)=ji16:=shr_small hji16
 obtain ⟨ax,H⟩:=fc_ H
 have al:=m_ ax
 clear ax
 obtain ⟨am,aa⟩:∃ y_:List Int,y_=(a5++[(ji16) % 256]):=⟨_,rfl⟩
 replace H:(spec_NumText.l0 k2 a0 am (wrap64 (a6 - 1)))=some r:=rh_ aa H
 have an:=m_ aa
 clear aa
 have H':=m_ H
 clear H
 go_wp2_with (first|((with_reducible refine gate_builtin (b:=.append) (xs:=#[.tmp 29,.tmp 36]) rfl ?_);at_builtin;refine Kd.R_append (Kd.int .u8) (w0:=w) w.heap.size rfl (.tmp 29) (.tmp 36) 101 5 (.int .u8 0) 1 rfl Tryz.underlying101 info5 rfl (by decide) (by omega) u5 a5 ((ji16) % 256) [.int .u8 ((ji16) % 256)] (fun _=>True) (fun _=>False) rfl rfl ?aP (fun _ hk=>hk.elim) ?aF ?aO ?aB ?aS ?aL ?_;(case aP=>exact rfl);(case aB=>exact th_);(case aF=>exact (fun _ _=>trivial));(case aO=>exact (raR_ ac));(case aS=>exact (below_size th_));(case aL=>have:=al.out;omega);intro v216 az ho hb hg hat;rw [← an.out] at ho;have z_:=p_ (hb) <| a_ (ho);clear HB ac;obtain ⟨HB,ao⟩:=z_;clear ho hb hg hat))
 go_roundg k2
 case measure=>have:=HJ2.out;have:=au.out;omega
 case rel=>exact ⟨(am),(wrap64 (a6 - 1)),tq_3,H',⟨(by have:=HJ2.out;have:=au.out;omega)⟩,⟨(raR_ ao)⟩,⟨th_⟩⟩

def spec_SerialWord.f (k:Nat) (a0:Int):Option (ByteArray):=(spec_l01In.f a0 0 16777215).bind fun a5=>(if a5=true then ((spec_NumText.f k a0 3).bind fun a6=>((spec_WordText.f k a6).bind fun a7=>(some a7))) else (some (⟨#[]⟩:ByteArray)))
theorem spec_SerialWord.calls (k:Nat) (a0:Int) (r:ByteArray) (w:World) (h:spec_SerialWord.f k a0=some r) :
  Calls Tryz.prog 25 #[.int .i64 a0] w fun e w'=>e=.returned (.string r)∧Below w.heap.size w w':=by
 have HB:=m_ (Below.refl w.heap.size w)
 unfold spec_SerialWord.f at h
 have H:=h
 clear h
 obtain ⟨a6,A2,H⟩:=bd_ H
 have a8:=m_ H
 clear H
 go_enter Tryz.func25,Tryz.ntmps25
 go_upto_if 5 with (first|((with_reducible refine gate_callee (f:=42) rfl ?_);refine goesL_ (some 4) rfl rfl Tryz.func42 kr_ rfl #[.int .i64 a0,.int .i64 0,.int .i64 16777215] rfl tq_0 ?_;(with_reducible refine (spec_l01In.calls a0 0 16777215 a6 _ A2.out).mono ?_);rintro e w' ⟨rfl,⟨nd,rfl⟩⟩;refine ⟨_,rfl,?_⟩))
 (try simp only [Act.put,List.setIfInBounds_toArray,List.set_cons_zero,List.set_cons_succ])
 have H:=a8.out
 clear a8
 by_cases c4:a6=true
 rotate_left
 ·replace c4:=Bool.eq_false_iff.mpr c4
  subst c4
  rw [if_neg nf_] at H
  obtain rfl:=oi_ H
  go_wp2
  go_ret
  exact ⟨tq_1,th_⟩
 subst c4
 rw [if_pos rfl] at H
 obtain ⟨a5,A5,H⟩:=bd_ H
 obtain ⟨a7,A6,H⟩:=bd_ H
 obtain rfl:=oi_ H
 go_wp2_with (first|((with_reducible refine gate_callee (f:=48) rfl ?_);refine goesL_ (some 7) rfl rfl Tryz.func48 kr_ rfl #[.int .i64 a0,.int .i64 3] rfl tq_0 ?_;(with_reducible refine (spec_NumText.calls k a0 3 a5 _ A5.out).mono ?_);rintro e w7 ⟨rfl,hb⟩;refine ⟨_,rfl,?_⟩;have n0_:=m_ (below_step th_ hb);clear HB;have HB:=n0_;clear n0_;(try clear hb))|((with_reducible refine gate_callee (f:=47) rfl ?_);refine goesL_ (some 8) rfl rfl Tryz.func47 kr_ rfl #[.string a5] rfl tq_0 ?_;(with_reducible refine (spec_WordText.calls k a5 a7 _ A6.out).mono ?_);rintro e w8 ⟨rfl,hb⟩;refine ⟨_,rfl,?_⟩;have n0_:=m_ (below_step th_ hb);clear HB;have HB:=n0_;clear n0_;(try clear hb)))
 go_ret
 exact ⟨tq_1,th_⟩

def spec_RecWord.j0:Nat→Bool→Int→Int→ByteArray→Option (ByteArray)
 | 0,_,_,_,_=>none
 | k+1,aa,a6,a7,a5=>if aa=true then (some (⟨#[]⟩:ByteArray)) else ((spec_NumText.f k a6 1).bind fun a8=>((spec_NumText.f k a7 3).bind fun a9=>(if a8.size+a9.size≤9223372036854775807 then (if (a8++a9).size+a5.size≤9223372036854775807 then (some ((a8++a9)++a5)) else (none)) else (none))))
def spec_RecWord.f (k:Nat) (a5:Int) (a6:Int) (a7:ByteArray):Option (ByteArray):=(spec_l01In.f a5 1 12).bind fun a8=>(if a8=true then ((spec_l01In.f a6 1 16777215).bind fun a9=>(if a9=true then (spec_RecWord.j0 k ((a7.size:Int) != 4) a5 a6 a7) else (spec_RecWord.j0 k true a5 a6 a7))) else (spec_RecWord.j0 k true a5 a6 a7))
def spec_RecWord.T3:Bool × List (List Nat × List Nat):=(true,[([],[]),([0],[0]),([1],[1]),([],[]),([3],[3]),([4,2],[4]),([2,5],[2,5]),([],[]),([7],[7]),([6,8],[6,8]),([9,5,0,1,2,3,4,5,6,7,8,9],[9])])
def spec_RecWord.B3:List Nat:=[0,1,3,0,8,31,63,0,128,511,1023]
theorem spec_RecWord.tab3:rtab .any (opsOf Tryz.f76 3)=spec_RecWord.T3:=by kernel_rfl
theorem spec_RecWord.bits3:waitsOk spec_RecWord.T3.2 spec_RecWord.B3=true:=by kernel_rfl
theorem spec_RecWord.calls (k:Nat) (a6:Int) (a7:Int) (a8:ByteArray) (r:ByteArray) (w:World) (h:spec_RecWord.f k a6 a7 a8=some r) :
  Calls Tryz.prog 76 #[.agg #[.int .i64 a6,.int .i64 a7,.string a8]] w fun e w'=>e=.returned (.string r)∧Below w.heap.size w w':=by
 have hu86:=Tryz.underlying86
 have HB:=m_ (Below.refl w.heap.size w)
 unfold spec_RecWord.f at h
 have H:=h
 clear h
 have ah:=m_ H
 clear H
 go_enter Tryz.func76,Tryz.ntmps76
 go_upto_region 1 with (first|((with_reducible refine gate_dst (N:=1) rfl ?_);(try (refine gate_guard (by rfl) ?_;dsimp only));refine be_ 1 (cs:=#[.int .i64 a6,.int .i64 a7,.string a8]) 86 ?_;intro a9 hg w3 hbox hb;have z_:=bx0_ th_ hb hbox hg;clear HB;obtain ⟨HB,a5,am,an⟩:=z_;clear hb hbox hg))
 (try simp only [Act.put,List.setIfInBounds_toArray,List.set_cons_zero,List.set_cons_succ])
 go_cut [18] (fun v18 wc=>∃ (kq:Nat) (aa:Bool),v18=.bool aa∧Aside0 (spec_RecWord.j0 kq aa a6 a7 a8=some r)∧Aside0 (kq≤k)∧Aside0 (wc.heap[a9]?=some (.cells #[.int .i64 a6,.int .i64 a7,.string a8] 86 (0,0)))∧Aside0 (Below w.heap.size w wc))
 case first =>
  have H:=ah.out
  clear ah
  obtain ⟨ai,A4,H⟩:=bd_ H
  by_cases c5:ai=true
  rotate_left
  ·replace c5:=Bool.eq_false_iff.mpr c5
   subst c5
   rw [if_neg nf_] at H
   have H':=m_ H
   clear H
   have ae:=bb3_ a5.out
   go_wp2_with (first|((with_reducible refine gate_callee (f:=42) rfl ?_);refine goesL_ (some 5) rfl rfl Tryz.func42 kr_ rfl #[.int .i64 a6,.int .i64 1,.int .i64 12] rfl tq_0 ?_;(with_reducible refine (spec_l01In.calls a6 1 12 false _ A4.out).mono ?_);rintro e w' ⟨rfl,⟨nd,rfl⟩⟩;refine ⟨_,rfl,?_⟩))
   go_meet
   case rel=>exact ⟨_,(true),tq_3,H',⟨tq_12⟩,⟨(kb_ a5)⟩,⟨th_⟩⟩
  subst c5
  rw [if_pos rfl] at H
  obtain ⟨aj,A6,H⟩:=bd_ H
  by_cases c7:aj=true
  ·subst c7
   rw [if_pos rfl] at H
   have H':=m_ H
   clear H
   have ao:=bb3_ a5.out
   go_wp2_with (first|((with_reducible refine gate_callee (f:=42) rfl ?_);refine goesL_ (some 5) rfl rfl Tryz.func42 kr_ rfl #[.int .i64 a6,.int .i64 1,.int .i64 12] rfl tq_0 ?_;(with_reducible refine (spec_l01In.calls a6 1 12 true _ A4.out).mono ?_);rintro e w' ⟨rfl,⟨nd,rfl⟩⟩;refine ⟨_,rfl,?_⟩)|(go_at_call 42;(with_reducible refine (spec_l01In.calls a7 1 16777215 true _ A6.out).mono ?_);rintro e w' ⟨rfl,⟨nd,rfl⟩⟩))
   go_meet
   case rel=>exact ⟨_,(((a8.size:Int) != 4)),tq_3,H',⟨tq_12⟩,⟨(kb_ a5)⟩,⟨th_⟩⟩
  replace c7:=Bool.eq_false_iff.mpr c7
  subst c7
  rw [if_neg nf_] at H
  have H':=m_ H
  clear H
  have ap:=bb3_ a5.out
  go_wp2_with (first|((with_reducible refine gate_callee (f:=42) rfl ?_);refine goesL_ (some 5) rfl rfl Tryz.func42 kr_ rfl #[.int .i64 a6,.int .i64 1,.int .i64 12] rfl tq_0 ?_;(with_reducible refine (spec_l01In.calls a6 1 12 true _ A4.out).mono ?_);rintro e w' ⟨rfl,⟨nd,rfl⟩⟩;refine ⟨_,rfl,?_⟩)|(go_at_call 42;(with_reducible refine (spec_l01In.calls a7 1 16777215 false _ A6.out).mono ?_);rintro e w' ⟨rfl,⟨nd,rfl⟩⟩))
  go_meet
  case rel=>exact ⟨_,(true),tq_3,H',⟨tq_12⟩,⟨(kb_ a5)⟩,⟨th_⟩⟩
 case rest =>
 clear ah
 try clear p2;try clear c4;try clear c5;try clear c7;try clear ae;try clear ao;try clear ap;try clear ae;try clear ao;try clear ap
 obtain ⟨kq,aa,rfl,HA,HJ1,a5,HB⟩:=hcut
 cases kq with
 | zero=>exact absurd HA.out (by simp [spec_RecWord.j0])
 | succ kj1 =>
 have H:=HA.out
 clear HA
 simp only [spec_RecWord.j0] at H
 by_cases ag:aa=true
 ·subst ag
  rw [if_pos rfl] at H
  obtain rfl:=oi_ H
  go_wp2
  go_ret
  exact ⟨tq_1,th_⟩
 replace ag:=Bool.eq_false_iff.mpr ag
 subst ag
 rw [if_neg nf_] at H
 obtain ⟨ab,ax,H⟩:=bd_ H
 obtain ⟨ac,ay,H⟩:=bd_ H
 obtain ⟨ak,H⟩:=fc_ H
 have aq:=eq_true ak
 have ar:=de_ ak
 try have au:(9223372036854775807 < ab.size+ac.size)=False:=eq_false (Nat.not_lt.2 ak)
 obtain ⟨al,H⟩:=fc_ H
 have av:=eq_true al
 have aw:=de_ al
 try have af:(9223372036854775807 < (ab++ac).size+a8.size)=False:=eq_false (Nat.not_lt.2 al)
 try have c15b2s:(9223372036854775807 < ab.size+ac.size+a8.size)=False:=by rw [← ByteArray.size_append];exact af
 obtain rfl:=oi_ H
 try go_wp2
 have z_:=dw1_ a5 HB
 clear a5 HB
 obtain ⟨a5,HB⟩:=z_
 refine start_ (n:=11) (S:=fun w'=>w'.cell? ⟨a9,0,none⟩=some (.int .i64 a6)∧w'.cell? ⟨a9,1,none⟩=some (.int .i64 a7)∧w'.cell? ⟨a9,2,none⟩=some (.string a8)) (ds:=[]) bq_70 kr_ rfl rfl (bk3_ a5.out) (fun hHeld=>?_);refine with_tabW spec_RecWord.tab3 spec_RecWord.bits3 (fun HT_ HW_=>?_)
 generalize wc.drew=az at a5 HB hHeld ⊢
 refine yr_ 0 19 bq_220 HT_ ?_
 refine yr_ 3 22 bq_150 HT_ ?_
 refine yr_ 7 26 bq_221 HT_ ?_
 refine tr_ 1 20 bq_222 HT_ HW_ hHeld ?_
 refine tr_ 4 23 bq_223 HT_ HW_ hHeld ?_
 refine tr_ 8 27 bq_224 HT_ HW_ hHeld ?_
 refine one_ (i:=2) (N:=some 21) bq_225 rfl rfl (one_of HT_.out kr_) (by decide) (fun K hK=>?_)
 refine goes_ Tryz.func48 kr_ rfl #[.int .i64 a6,.int .i64 1] (by rfl) rfl rfl tq_0 ?_
 with_reducible refine (spec_NumText.calls kj1 a6 1 ab _ ax.out).mono ?_
 rintro e b0 ⟨rfl,hb⟩
 refine ⟨_,rfl,?_⟩
 have z_:=bw1_ (kb_ a5) th_ hb
 clear a5 HB
 obtain ⟨a5,HB⟩:=z_
 (try clear hb)
 refine hK.out _ _ (bk3_ a5.out) (fun hHeld=>?_)
 clear hK K
 refine nm_ (some 21) ?_
 refine one_ (i:=5) (N:=some 24) bq_226 rfl rfl (one_of HT_.out kr_) (by decide) (fun K hK=>?_)
 refine goes_ Tryz.func48 kr_ rfl #[.int .i64 a7,.int .i64 3] (by rfl) rfl rfl tq_0 ?_
 with_reducible refine (spec_NumText.calls kj1 a7 3 ac _ ay.out).mono ?_
 rintro e b1 ⟨rfl,hb⟩
 refine ⟨_,rfl,?_⟩
 have z_:=bw1_ (kb_ a5) th_ hb
 clear a5 HB
 obtain ⟨a5,HB⟩:=z_
 (try clear hb)
 refine hK.out _ _ (bk3_ a5.out) (fun hHeld=>?_)
 clear hK K
 refine nm_ (some 24) ?_
 refine yr_ 6 25 bq_2 HT_ ?_
 refine yr_ 9 28 bq_71 HT_ ?_
 refine yr_ 10 2 bq_72 HT_ ?_
 refine done_ (done_of HT_.out kr_) ?_
 try go_wp2
 go_ret
 exact ⟨tq_1,th_⟩

def spec_ReadRec.f (k:Nat) (a0:ByteArray):Option (Int × Int × ByteArray × Bool):=if (a0.size:Int)=8 then ((spec_NumAt.f k a0 0 1).bind fun a5=>((spec_NumAt.f k a0 1 3).bind fun a6=>(if 4≤(a0.size:Int) then ((spec_RecWord.f k a5.1 a6.1 (a0.extract 4 a0.size)).bind fun a7=>(if a7.toList=a0.toList then (some (a5.1,a6.1,a0.extract 4 a0.size,true)) else (some (0,0,(⟨#[]⟩:ByteArray),false)))) else (none)))) else (some (0,0,(⟨#[]⟩:ByteArray),false))
theorem spec_ReadRec.calls (k:Nat) (a0:ByteArray) (r1:Int) (r2:Int) (r3:ByteArray) (r4:Bool) (w:World) (h:spec_ReadRec.f k a0=some (r1,r2,r3,r4)) :
  Calls Tryz.prog 50 #[.string a0] w fun e w'=>e=.returned (.tuple #[.agg #[.int .i64 r1,.int .i64 r2,.string r3],.bool r4])∧Below w.heap.size w w':=by
 have hu86:=Tryz.underlying86
 have HB:=m_ (Below.refl w.heap.size w)
 unfold spec_ReadRec.f at h
 have H:=h
 clear h
 have ap:=m_ H
 clear H
 go_enter Tryz.func50,Tryz.ntmps50
 go_upto_if 11 with (first|((with_reducible refine gate_dst (N:=2) rfl ?_);refine be_ 2 (cs:=#[.int .i64 0,.int .i64 0,.string (⟨#[]⟩:ByteArray)]) 86 ?_;intro aa hg w3 hbox hb;have z_:=bx0_ th_ hb hbox hg;clear HB;obtain ⟨HB,a5,aq,ar⟩:=z_;clear hb hbox hg))
 (try simp only [Act.put,List.setIfInBounds_toArray,List.set_cons_zero,List.set_cons_succ])
 have H:=ap.out
 clear ap
 by_cases c4:(a0.size:Int)=8
 rotate_left
 ·rw [if_neg c4] at H
  have ae:=qc_ c4
  have al:=qd_ c4
  (first|rw [ae]|(simp only [i64_w,i32_w];rw [ae])|skip)
  simp only [Option.some.injEq,Prod.mk.injEq] at H
  obtain ⟨rfl,rfl,rfl,rfl⟩:=H
  have ax:=bb3_ a5.out
  go_wp2
  refine bodyPost_ret (results_ct rfl _ _ aa 86 #[.int .i64 0,.int .i64 0,.string (⟨#[]⟩:ByteArray)] (0,0) _ rfl tb_ Tryz.underlying86 rfl kr_) rfl ?_
  exact ⟨tq_1,th_⟩
 rw [if_pos c4] at H
 have ae:=qa_ c4
 have al:=qb_ c4
 clear c4
 (first|rw [ae]|(simp only [i64_w,i32_w];rw [ae])|skip)
 obtain ⟨⟨af,am⟩,A5,H⟩:=bd_ H
 try dsimp -simprocs only at H
 obtain ⟨⟨ag,an⟩,A6,H⟩:=bd_ H
 try dsimp -simprocs only at H
 obtain ⟨c7,H⟩:=fc_ H
 have ay:=eq_true c7
 have az:=de_ c7
 clear c7
 obtain ⟨ai,A8,H⟩:=bd_ H
 have au:=m_ H
 clear H
 go_upto_if 31 with (first|((with_reducible refine gate_callee (f:=21) rfl ?_);refine goesL_ (some 15) rfl rfl Tryz.func21 kr_ rfl #[.string a0,.int .i64 0,.int .i64 1] rfl tq_0 ?_;(with_reducible refine (spec_NumAt.calls k a0 0 1 af am _ A5.out).mono ?_);rintro e w' ⟨rfl,⟨nd,rfl⟩⟩;refine ⟨_,rfl,?_⟩;(try (rw [drewN_self w3];generalize hq_:World.drewN w3 _=w3;have z_:=q_ (⟨(by rw [← hq_];exact (kb_ a5))⟩:Aside0 (w3.heap[aa]?=some (.cells #[.int .i64 0,.int .i64 0,.string (⟨#[]⟩:ByteArray)] 86 (0,0)))) <| (⟨tq_74⟩:Aside0 (Below w.heap.size w w3));clear a5 HB hq_;obtain ⟨a5,HB⟩:=z_)))|((with_reducible refine gate_callee (f:=21) rfl ?_);refine goesL_ (some 20) rfl rfl Tryz.func21 kr_ rfl #[.string a0,.int .i64 1,.int .i64 3] rfl tq_0 ?_;(with_reducible refine (spec_NumAt.calls k a0 1 3 ag an _ A6.out).mono ?_);rintro e w' ⟨rfl,⟨nd,rfl⟩⟩;refine ⟨_,rfl,?_⟩;(try (rw [drewN_self w3];generalize hq_:World.drewN w3 _=w3;have z_:=q_ (⟨(by rw [← hq_];exact (kb_ a5))⟩:Aside0 (w3.heap[aa]?=some (.cells #[.int .i64 0,.int .i64 0,.string (⟨#[]⟩:ByteArray)] 86 (0,0)))) <| (⟨tq_74⟩:Aside0 (Below w.heap.size w w3));clear a5 HB hq_;obtain ⟨a5,HB⟩:=z_)))|((with_reducible refine gate_dst (N:=8) rfl ?_);refine be_ 8 (cs:=#[.int .i64 0,.int .i64 0,.string (⟨#[]⟩:ByteArray)]) 86 ?_;intro aj hg b3 hbox hb;have z_:=bx1_ (kb_ a5) th_ hb hbox hg;clear a5 HB;obtain ⟨a5,HB,ab,av,aw,a6,a7⟩:=z_;clear hb hbox hg;obtain ⟨a8,a9⟩:=an2_ a7 a6;have ao:=bb3_ ab.out)|((with_reducible refine gate_callee (f:=76) rfl ?_);refine goesL_ (some 29) rfl rfl Tryz.func76 kr_ rfl #[.agg #[.int .i64 af,.int .i64 ag,.string (a0.extract 4 a0.size)]] rfl tq_0 ?_;(with_reducible refine (spec_RecWord.calls k af ag (a0.extract 4 a0.size) ai _ A8.out).mono ?_);rintro e b4 ⟨rfl,hb⟩;refine ⟨_,rfl,?_⟩;have z_:=p_ (blk_below (g:=aa) (o:=.cells #[.int .i64 0,.int .i64 0,.string (⟨#[]⟩:ByteArray)] 86 (0,0)) (fr_ a5.out a6.out) hb) <| p_ (blk_below (g:=aj) (o:=.cells #[.int .i64 af,.int .i64 ag,.string (a0.extract 4 a0.size)] 86 (0,0)) (pt_ ab.out) hb) <| a_ (below_step th_ hb);clear a5 ab HB;obtain ⟨a5,ab,HB⟩:=z_;(try clear hb)))
 (try simp only [Act.put,List.setIfInBounds_toArray,List.set_cons_zero,List.set_cons_succ])
 (try clear a9 a8)
 (try clear ao)
 have H:=au.out
 clear au
 by_cases ah:ai.toList=a0.toList
 rotate_left
 ·rw [if_neg ah] at H
  have ac:=qc_ ah
  have ak:=qd_ ah
  (first|rw [ac]|(simp only [i64_w,i32_w];rw [ac])|skip)
  simp only [Option.some.injEq,Prod.mk.injEq] at H
  obtain ⟨rfl,rfl,rfl,rfl⟩:=H
  obtain ⟨a9,a8⟩:=an2_ a6 a7
  have b0:=bb3_ a5.out
  go_wp2
  refine bodyPost_ret (results_ct rfl _ _ aa 86 #[.int .i64 0,.int .i64 0,.string (⟨#[]⟩:ByteArray)] (0,0) _ rfl tb_ Tryz.underlying86 rfl kr_) rfl ?_
  exact ⟨tq_1,th_⟩
 rw [if_pos ah] at H
 have ac:=qa_ ah
 have ak:=qb_ ah
 clear ah
 (first|rw [ac]|(simp only [i64_w,i32_w];rw [ac])|skip)
 simp only [Option.some.injEq,Prod.mk.injEq] at H
 obtain ⟨rfl,rfl,rfl,rfl⟩:=H
 obtain ⟨a8,a9⟩:=an2_ a7 a6
 have b1:=bb3_ ab.out
 have b2:=bb3_ a5.out
 go_wp2
 refine bodyPost_ret (results_ct rfl _ _ aa 86 #[.int .i64 af,.int .i64 ag,.string (a0.extract 4 a0.size)] (0,0) _ rfl tb_ Tryz.underlying86 rfl kr_) rfl ?_
 exact ⟨tq_1,th_⟩

def spec_NameOk.l0:Nat→ByteArray→Int→Option (Bool)
 | 0,_,_=>none
 | k+1,x0,x3=>if x3 < (x0.size:Int) then (if 0≤x3 then ((spec_l01In.f (wrap64 (bt x0 x3)) 97 122).bind fun a5=>(if a5=true then (spec_NameOk.l0 k x0 (wrap64 (x3+1))) else ((spec_l01In.f (wrap64 (bt x0 x3)) 48 57).bind fun a6=>(if a6=true then (spec_NameOk.l0 k x0 (wrap64 (x3+1))) else (some false))))) else (none)) else ((spec_l01In.f (x0.size:Int) 1 7).bind fun a7=>(some a7))
def spec_NameOk.f (k:Nat) (a0:ByteArray):Option (Bool):=spec_NameOk.l0 k a0 0
theorem spec_NameOk.calls (k:Nat) (a0:ByteArray) (r:Bool) (w:World) (h:spec_NameOk.f k a0=some r) :
  Calls Tryz.prog 96 #[.string a0] w fun e w'=>e=.returned (.bool r)∧Drawn0 w w':=by
 unfold spec_NameOk.f at h
 have H:=h
 clear h
 have H':=m_ H
 clear H
 go_enter Tryz.func96,Tryz.ntmps96
 go_wp2
 go_loopg [3] k (fun kq v3 w'=>∃ (a5:Int),v3=.int .i64 a5∧Aside0 (spec_NameOk.l0 kq a0 a5=some r)∧Aside0 (kq≤k)∧Drawn0 w w')
 case atStart=>exact ⟨(0),tq_3,H',⟨Nat.le_refl _⟩,tq_8⟩
 case round =>
 clear H'
 obtain ⟨a5,rfl,HA,HK1,⟨m1,rfl⟩⟩:=hrel
 cases gk with
 | zero=>exact absurd HA.out (by simp [spec_NameOk.l0])
 | succ k1 =>
 have H:=HA.out
 clear HA
 simp only [spec_NameOk.l0] at H
 by_cases c2:a5 < (a0.size:Int)
 rotate_left
 ·rw [if_neg c2] at H
  have a8:=df_ c2
  clear c2
  obtain ⟨a9,ac,H⟩:=bd_ H
  obtain rfl:=oi_ H
  go_wp2_with (first|((with_reducible refine gate_callee (f:=42) rfl ?_);refine goesL_ (some 26) rfl rfl Tryz.func42 kr_ rfl #[.int .i64 (a0.size:Int),.int .i64 1,.int .i64 7] rfl tq_0 ?_;(with_reducible refine (spec_l01In.calls (a0.size:Int) 1 7 a9 _ ac.out).mono ?_);rintro e w' ⟨rfl,⟨nd,rfl⟩⟩;refine ⟨_,rfl,?_⟩))
  go_ret
  exact ⟨tq_3,tq_8⟩
 rw [if_pos c2] at H
 have a8:=de_ c2
 clear c2
 obtain ⟨c3,H⟩:=fc_ H
 have ae:=de_ c3
 clear c3
 obtain ⟨aa,A5,H⟩:=bd_ H
 by_cases c6:aa=true
 ·subst c6
  rw [if_pos rfl] at H
  have H':=m_ H
  clear H
  have p4:0≤(a5:Int):=od_ tq_2
  have q4:a5 < (a0.size:Int):=od_ tq_2
  have hx4:=bt_at a0 a5
  replace p4:=eq_true p4
  replace q4:=eq_true q4
  go_wp2_with (first|((with_reducible refine gate_callee (f:=42) rfl ?_);refine goesL_ (some 14) rfl rfl Tryz.func42 kr_ rfl #[.int .i64 (wrap64 (bt a0 a5)),.int .i64 97,.int .i64 122] rfl tq_0 ?_;(with_reducible refine (spec_l01In.calls (wrap64 (bt a0 a5)) 97 122 true _ A5.out).mono ?_);rintro e w' ⟨rfl,⟨nd,rfl⟩⟩;refine ⟨_,rfl,?_⟩))
  go_roundg k1
  case measure=>have:=HK1.out;omega
  case rel=>exact ⟨(wrap64 (a5+1)),tq_3,H',⟨tq_14⟩,tq_8⟩
 replace c6:=Bool.eq_false_iff.mpr c6
 subst c6
 rw [if_neg nf_] at H
 obtain ⟨a6,A8,H⟩:=bd_ H
 have ab:=m_ H
 clear H
 have p4:0≤(a5:Int):=od_ tq_2
 have q4:a5 < (a0.size:Int):=od_ tq_2
 have hx4:=bt_at a0 a5
 replace p4:=eq_true p4
 replace q4:=eq_true q4
 go_upto_if 23 with (first|((with_reducible refine gate_callee (f:=42) rfl ?_);refine goesL_ (some 14) rfl rfl Tryz.func42 kr_ rfl #[.int .i64 (wrap64 (bt a0 a5)),.int .i64 97,.int .i64 122] rfl tq_0 ?_;(with_reducible refine (spec_l01In.calls (wrap64 (bt a0 a5)) 97 122 false _ A5.out).mono ?_);rintro e w' ⟨rfl,⟨nd,rfl⟩⟩;refine ⟨_,rfl,?_⟩;have p7:0≤(a5:Int):=od_ tq_2;have q7:a5 < (a0.size:Int):=od_ tq_2;have hx7:=bt_at a0 a5;replace p7:=eq_true p7;replace q7:=eq_true q7)|(go_at_call 42;(with_reducible refine (spec_l01In.calls (wrap64 (bt a0 a5)) 48 57 a6 _ A8.out).mono ?_);rintro e w' ⟨rfl,⟨nd,rfl⟩⟩))
 (try simp only [Act.put,List.setIfInBounds_toArray,List.set_cons_zero,List.set_cons_succ])
 have H:=ab.out
 clear ab
 by_cases a7:a6=true
 rotate_left
 ·replace a7:=Bool.eq_false_iff.mpr a7
  subst a7
  rw [if_neg nf_] at H
  obtain rfl:=oi_ H
  go_wp2
  go_ret
  exact ⟨tq_3,tq_8⟩
 subst a7
 rw [if_pos rfl] at H
 have H':=m_ H
 clear H
 go_wp2
 go_roundg k1
 case measure=>have:=HK1.out;omega
 case rel=>exact ⟨(wrap64 (a5+1)),tq_3,H',⟨tq_14⟩,tq_8⟩

def spec_EntryWord.j0:Nat→Bool→Int→ByteArray→Option (ByteArray)
 | 0,_,_,_=>none
 | k+1,a9,a6,a5=>if a9=true then (some (⟨#[]⟩:ByteArray)) else ((spec_NumText.f k a6 1).bind fun a7=>(if a7.size+a5.size≤9223372036854775807 then ((spec_WordText.f k (a7++a5)).bind fun a8=>(some a8)) else (none)))
def spec_EntryWord.f (k:Nat) (a5:Int) (a6:ByteArray):Option (ByteArray):=(spec_l01In.f a5 1 5).bind fun a7=>(if a7=true then ((spec_NameOk.f k a6).bind fun a8=>(spec_EntryWord.j0 k (!a8) a5 a6)) else (spec_EntryWord.j0 k true a5 a6))
def spec_EntryWord.T3:Bool × List (List Nat × List Nat):=(true,[([],[]),([0],[0]),([1],[1]),([],[]),([3],[3]),([2,4],[2,4]),([5,2],[5]),([6,6,0,1,2,3,4,5,6],[6])])
def spec_EntryWord.B3:List Nat:=[0,1,3,0,8,31,63,127]
theorem spec_EntryWord.tab3:rtab .any (opsOf Tryz.f77 3)=spec_EntryWord.T3:=by kernel_rfl
theorem spec_EntryWord.bits3:waitsOk spec_EntryWord.T3.2 spec_EntryWord.B3=true:=by kernel_rfl
theorem spec_EntryWord.calls (k:Nat) (a6:Int) (a7:ByteArray) (r:ByteArray) (w:World) (h:spec_EntryWord.f k a6 a7=some r) :
  Calls Tryz.prog 77 #[.agg #[.int .i64 a6,.string a7]] w fun e w'=>e=.returned (.string r)∧Below w.heap.size w w':=by
 have hu90:=Tryz.underlying90
 have HB:=m_ (Below.refl w.heap.size w)
 unfold spec_EntryWord.f at h
 have H:=h
 clear h
 have ac:=m_ H
 clear H
 go_enter Tryz.func77,Tryz.ntmps77
 go_upto_region 1 with (first|((with_reducible refine gate_dst (N:=1) rfl ?_);refine be_ 1 (cs:=#[.int .i64 a6,.string a7]) 90 ?_;intro a9 hg w3 hbox hb;have z_:=bx0_ th_ hb hbox hg;clear HB;obtain ⟨HB,a5,ah,ai⟩:=z_;clear hb hbox hg))
 (try simp only [Act.put,List.setIfInBounds_toArray,List.set_cons_zero,List.set_cons_succ])
 go_cut [12] (fun v12 wc=>∃ (kq:Nat) (a8:Bool),v12=.bool a8∧Aside0 (spec_EntryWord.j0 kq a8 a6 a7=some r)∧Aside0 (kq≤k)∧Aside0 (wc.heap[a9]?=some (.cells #[.int .i64 a6,.string a7] 90 (0,0)))∧Aside0 (Below w.heap.size w wc))
 case first =>
  have H:=ac.out
  clear ac
  obtain ⟨ae,A4,H⟩:=bd_ H
  by_cases c5:ae=true
  rotate_left
  ·replace c5:=Bool.eq_false_iff.mpr c5
   subst c5
   rw [if_neg nf_] at H
   have H':=m_ H
   clear H
   have aj:=bb2_ a5.out
   go_wp2_with (first|((with_reducible refine gate_callee (f:=42) rfl ?_);refine goesL_ (some 5) rfl rfl Tryz.func42 kr_ rfl #[.int .i64 a6,.int .i64 1,.int .i64 5] rfl tq_0 ?_;(with_reducible refine (spec_l01In.calls a6 1 5 false _ A4.out).mono ?_);rintro e w' ⟨rfl,⟨nd,rfl⟩⟩;refine ⟨_,rfl,?_⟩))
   go_meet
   case rel=>exact ⟨_,(true),tq_3,H',⟨tq_12⟩,⟨(kb_ a5)⟩,⟨th_⟩⟩
  subst c5
  rw [if_pos rfl] at H
  obtain ⟨ab,A6,H⟩:=bd_ H
  have H':=m_ H
  clear H
  have ak:=bb2_ a5.out
  go_wp2_with (first|((with_reducible refine gate_callee (f:=42) rfl ?_);refine goesL_ (some 5) rfl rfl Tryz.func42 kr_ rfl #[.int .i64 a6,.int .i64 1,.int .i64 5] rfl tq_0 ?_;(with_reducible refine (spec_l01In.calls a6 1 5 true _ A4.out).mono ?_);rintro e w' ⟨rfl,⟨nd,rfl⟩⟩;refine ⟨_,rfl,?_⟩)|(go_at_call 96;(with_reducible refine (spec_NameOk.calls k a7 ab _ A6.out).mono ?_);rintro e w' ⟨rfl,⟨nd,rfl⟩⟩))
  go_meet
  case rel=>exact ⟨_,(!ab),tq_3,H',⟨tq_12⟩,⟨(kb_ a5)⟩,⟨th_⟩⟩
 case rest =>
 clear ac
 try clear p2;try clear c4;try clear c5;try clear c7;try clear ak;try clear aj;try clear ak;try clear aj
 obtain ⟨kq,a8,rfl,HA,HJ1,a5,HB⟩:=hcut
 cases kq with
 | zero=>exact absurd HA.out (by simp [spec_EntryWord.j0])
 | succ kj1 =>
 have H:=HA.out
 clear HA
 simp only [spec_EntryWord.j0] at H
 by_cases c9:a8=true
 ·subst c9
  rw [if_pos rfl] at H
  obtain rfl:=oi_ H
  go_wp2
  go_ret
  exact ⟨tq_1,th_⟩
 replace c9:=Bool.eq_false_iff.mpr c9
 subst c9
 rw [if_neg nf_] at H
 obtain ⟨aa,ao,H⟩:=bd_ H
 obtain ⟨af,H⟩:=fc_ H
 have al:=eq_true af
 have am:=de_ af
 try have an:(9223372036854775807 < aa.size+a7.size)=False:=eq_false (Nat.not_lt.2 af)
 obtain ⟨ag,ap,H⟩:=bd_ H
 obtain rfl:=oi_ H
 try go_wp2
 have z_:=dw1_ a5 HB
 clear a5 HB
 obtain ⟨a5,HB⟩:=z_
 refine start_ (n:=8) (S:=fun w'=>w'.cell? ⟨a9,0,none⟩=some (.int .i64 a6)∧w'.cell? ⟨a9,1,none⟩=some (.string a7)) (ds:=[]) bq_3 kr_ rfl rfl (bk2_ a5.out) (fun hHeld=>?_);refine with_tabW spec_EntryWord.tab3 spec_EntryWord.bits3 (fun HT_ HW_=>?_)
 generalize wc.drew=aq at a5 HB hHeld ⊢
 refine yr_ 0 13 bq_4 HT_ ?_
 refine yr_ 3 16 bq_227 HT_ ?_
 refine tr_ 1 14 bq_228 HT_ HW_ hHeld ?_
 refine tr_ 4 17 bq_229 HT_ HW_ hHeld ?_
 refine one_ (i:=2) (N:=some 15) bq_149 rfl rfl (one_of HT_.out kr_) (by decide) (fun K hK=>?_)
 refine goes_ Tryz.func48 kr_ rfl #[.int .i64 a6,.int .i64 1] (by rfl) rfl rfl tq_0 ?_
 with_reducible refine (spec_NumText.calls kj1 a6 1 aa _ ao.out).mono ?_
 rintro e ar ⟨rfl,hb⟩
 refine ⟨_,rfl,?_⟩
 have z_:=bw1_ (kb_ a5) th_ hb
 clear a5 HB
 obtain ⟨a5,HB⟩:=z_
 (try clear hb)
 refine hK.out _ _ (bk2_ a5.out) (fun hHeld=>?_)
 clear hK K
 refine nm_ (some 15) ?_
 refine yr_ 5 18 bq_5 HT_ ?_
 refine one_ (i:=6) (N:=some 19) bq_6 rfl rfl (one_of HT_.out kr_) (by decide) (fun K hK=>?_)
 refine goes_ Tryz.func47 kr_ rfl #[.string (aa++a7)] (by rfl) rfl rfl tq_0 ?_
 with_reducible refine (spec_WordText.calls kj1 (aa++a7) ag _ ap.out).mono ?_
 rintro e au ⟨rfl,hb⟩
 refine ⟨_,rfl,?_⟩
 have z_:=bw1_ (kb_ a5) th_ hb
 clear a5 HB
 obtain ⟨a5,HB⟩:=z_
 (try clear hb)
 refine hK.out _ _ (bk2_ a5.out) (fun hHeld=>?_)
 clear hK K
 refine nm_ (some 19) ?_
 refine yr_ 7 2 bq_7 HT_ ?_
 refine done_ (done_of HT_.out kr_) ?_
 try go_wp2
 go_ret
 exact ⟨tq_1,th_⟩

def spec_ReadEntry.l0:Nat→ByteArray→Int→Option (Int × ByteArray × Bool)
 | 0,_,_=>none
 | k+1,x0,x4=>if x4 > 1 then (if 0≤(wrap64 (x4 - 1)) then (if (wrap64 (x4 - 1)) < (x0.size:Int) then (if (bt x0 (wrap64 (x4 - 1)))=0 then (spec_ReadEntry.l0 k x0 (wrap64 (x4 - 1))) else (if 0 < (x0.size:Int) then (if 1≤x4 then (if x4≤(x0.size:Int) then ((spec_EntryWord.f k (wrap64 (bt x0 0)) (x0.extract 1 (x4:Int).toNat)).bind fun a5=>(if a5.toList=x0.toList then (some (wrap64 (bt x0 0),x0.extract 1 (x4:Int).toNat,true)) else (some (0,(⟨#[]⟩:ByteArray),false)))) else (none)) else (none)) else (none))) else (none)) else (none)) else (if 0 < (x0.size:Int) then (if 1≤x4 then (if x4≤(x0.size:Int) then ((spec_EntryWord.f k (wrap64 (bt x0 0)) (x0.extract 1 (x4:Int).toNat)).bind fun a6=>(if a6.toList=x0.toList then (some (wrap64 (bt x0 0),x0.extract 1 (x4:Int).toNat,true)) else (some (0,(⟨#[]⟩:ByteArray),false)))) else (none)) else (none)) else (none))
def spec_ReadEntry.f (k:Nat) (a0:ByteArray):Option (Int × ByteArray × Bool):=if (a0.size:Int)=8 then (spec_ReadEntry.l0 k a0 8) else (some (0,(⟨#[]⟩:ByteArray),false))
def spec_ReadEntry.T6:Bool × List (List Nat × List Nat):=(true,[([],[]),([0],[0]),([1],[1]),([],[]),([],[]),([3,4],[3,4]),([2,5],[2,5]),([],[]),([7,6,0,1,2,3,4,5,6,7],[6,7])])
def spec_ReadEntry.B6:List Nat:=[0,1,3,0,0,24,63,0,255]
theorem spec_ReadEntry.tab6:rtab .any (opsOf Tryz.f51 6)=spec_ReadEntry.T6:=by kernel_rfl
theorem spec_ReadEntry.bits6:waitsOk spec_ReadEntry.T6.2 spec_ReadEntry.B6=true:=by kernel_rfl
theorem spec_ReadEntry.calls (k:Nat) (a0:ByteArray) (r1:Int) (r2:ByteArray) (r3:Bool) (w:World) (h:spec_ReadEntry.f k a0=some (r1,r2,r3)) :
  Calls Tryz.prog 51 #[.string a0] w fun e w'=>e=.returned (.tuple #[.agg #[.int .i64 r1,.string r2],.bool r3])∧Below w.heap.size w w':=by
 have hu90:=Tryz.underlying90
 have HB:=m_ (Below.refl w.heap.size w)
 unfold spec_ReadEntry.f at h
 have H:=h
 clear h
 have ba:=m_ H
 clear H
 go_enter Tryz.func51,Tryz.ntmps51
 go_upto_if 8 with (first|((with_reducible refine gate_dst (N:=2) rfl ?_);refine be_ 2 (cs:=#[.int .i64 0,.string (⟨#[]⟩:ByteArray)]) 90 ?_;intro ae hg w3 hbox hb;have z_:=bx0_ th_ hb hbox hg;clear HB;obtain ⟨HB,a5,bb,bc⟩:=z_;clear hb hbox hg))
 (try simp only [Act.put,List.setIfInBounds_toArray,List.set_cons_zero,List.set_cons_succ])
 have H:=ba.out
 clear ba
 by_cases c4:(a0.size:Int)=8
 rotate_left
 ·rw [if_neg c4] at H
  have am:=qc_ c4
  have av:=qd_ c4
  (first|rw [am]|(simp only [i64_w,i32_w];rw [am])|skip)
  simp only [Option.some.injEq,Prod.mk.injEq] at H
  obtain ⟨rfl,rfl,rfl⟩:=H
  have cc:=bb2_ a5.out
  go_wp2
  refine bodyPost_ret (results_ct rfl _ _ ae 90 #[.int .i64 0,.string (⟨#[]⟩:ByteArray)] (0,0) _ rfl tb_ Tryz.underlying90 rfl kr_) rfl ?_
  exact ⟨tq_1,th_⟩
 rw [if_pos c4] at H
 have am:=qa_ c4
 have av:=qb_ c4
 clear c4
 (first|rw [am]|(simp only [i64_w,i32_w];rw [am])|skip)
 have H':=m_ H
 clear H
 go_wp2
 go_loopg [4] k (fun kq v4 w'=>∃ (a6:Int),v4=.int .i64 a6∧Aside0 (spec_ReadEntry.l0 kq a0 a6=some (r1,r2,r3))∧Aside0 (kq≤k)∧Aside0 (w'.heap[ae]?=some (.cells #[.int .i64 0,.string (⟨#[]⟩:ByteArray)] 90 (0,0)))∧Aside0 (Below w.heap.size w w'))
 case atStart=>exact ⟨(8),tq_3,H',⟨Nat.le_refl _⟩,⟨(kb_ a5)⟩,⟨th_⟩⟩
 case round =>
 clear H'
 try clear p2;try clear c4;try clear am;try clear av
 obtain ⟨a6,rfl,HA,HK1,a5,HB⟩:=hrel
 cases gk with
 | zero=>exact absurd HA.out (by simp [spec_ReadEntry.l0])
 | succ k1 =>
 have H:=HA.out
 clear HA
 simp only [spec_ReadEntry.l0] at H
 by_cases c5:a6 > 1
 rotate_left
 ·rw [if_neg c5] at H
  have b3:=df_ c5
  clear c5
  obtain ⟨bd,H⟩:=fc_ H
  have be:=de_ bd
  have bf:decide (0 < a0.size)=true:=de_ (by omega)
  clear bd
  obtain ⟨b4,H⟩:=fc_ H
  have bg:=eq_true b4
  have bh:=de_ b4
  clear b4
  obtain ⟨b5,H⟩:=fc_ H
  have bi:=eq_true b5
  have bj:=de_ b5
  clear b5
  obtain ⟨aw,cd,H⟩:=bd_ H
  have ax:=m_ H
  clear H
  try go_wp2
  have z_:=dw1_ a5 HB
  clear a5 HB
  obtain ⟨a5,HB⟩:=z_
  have ce:0≤(0:Int):=(by omega)
  have bl:0 < a0.size:=(by have:(0:Int) < (a0.size:Int):=od_ tq_2;omega)
  have hx32:∀ h:0 < a0.size,((a0[0]'h).toNat:Int)=bt a0 0:=bt_at a0 0
  clear ce
  have cf:(0 < (a0.size:Int))=True:=eq_true (od_ tq_2)
  replace bl:=eq_true bl
  refine start_ (n:=9) (S:=fun w'=>True) (ds:=[]) bq_151 kr_ rfl rfl trivial (fun hHeld=>?_);refine with_tabW spec_ReadEntry.tab6 spec_ReadEntry.bits6 (fun HT_ HW_=>?_)
  generalize wr.drew=cr at a5 HB hHeld ⊢
  refine yr_ 0 21 bq_152 HT_ ?_
  refine yr_ 3 24 bq_153 HT_ ?_
  refine yr_ 4 25 bq_154 HT_ ?_
  refine yr_ 5 26 bq_230 HT_ ?_
  refine take_ (i:=1) (N:=some 22) (v:=?_) (a':=?_) bq_231 rfl rfl (take_ofW HT_.out HW_.out kr_) (fun _ _ _ h=>h) (Or.inl ⟨(by rfl),?_⟩) hHeld ?_ ?_
  rotate_left
  ·intro w' _
   go_simp
   with_reducible rfl
  rotate_left
  ·simp only [Act.put,List.setIfInBounds_toArray,List.set_cons_zero,List.set_cons_succ,i64_w,i32_w]
   rfl
  refine yr_ 2 23 bq_155 HT_ ?_
  refine yr_ 6 27 bq_156 HT_ ?_
  refine one_ (i:=7) (N:=some 5) bq_29 rfl rfl (one_of HT_.out kr_) (by decide) (fun K hK=>?_)
  refine box_step ?hg (N:=5) ?hd (cs:=#[.int .i64 0,.string (⟨#[]⟩:ByteArray)]) (t:=90) ?hr ?_;(case hd=>rfl);(case hg=>rfl);(case hr=>first|(go_simp;done)|(go_simp;rfl))
  intro an hg bm hbox hb
  have z_:=bx1_ (kb_ a5) th_ hb hbox hg
  clear a5 HB
  obtain ⟨a5,HB,a9,bn,bo,a7,ab⟩:=z_
  clear hb hbox hg
  refine hK.out _ _ trivial (fun hHeld=>?_)
  clear hK K
  refine nm_ (some 5) ?_
  refine one_ (i:=8) (N:=none) bq_157 rfl rfl (one_of HT_.out kr_) (by decide) (fun K hK=>?_)
  have hs39:bm.cell? ⟨an,0,none⟩=some (.int .i64 0):=(blk_cell a9.out 0).trans rfl
  have hfs39:=blk_frozen a9.out 0
  obtain ⟨af,ag⟩:=an2_ a7 ab
  have hs40:bm.cell? ⟨an,1,none⟩=some (.string (⟨#[]⟩:ByteArray)):=(blk_cell a9.out 1).trans rfl
  have hfs40:=blk_frozen a9.out 1
  refine skip_ (w1:=?_) (by rfl) rfl ?_ ?_
  rotate_left
  ·go_simp
   rfl
  refine hK.out _ _ trivial (fun hHeld=>?_)
  clear hK K
  refine done_ (done_of HT_.out kr_) ?_
  have b6:=bb2_ a9.out
  go_upto_if 31 with (first|((with_reducible refine gate_callee (f:=77) rfl ?_);refine goesL_ (some 29) rfl rfl Tryz.func77 kr_ rfl #[.agg #[.int .i64 (wrap64 (bt a0 0)),.string (a0.extract 1 (a6:Int).toNat)]] rfl tq_0 ?_;(with_reducible refine (spec_EntryWord.calls k1 (wrap64 (bt a0 0)) (a0.extract 1 (a6:Int).toNat) aw _ cd.out).mono ?_);rintro e ct ⟨rfl,hb⟩;refine ⟨_,rfl,?_⟩;have z_:=p_ (blk_below (g:=ae) (o:=.cells #[.int .i64 0,.string (⟨#[]⟩:ByteArray)] 90 (0,0)) (fr_ a5.out a7.out) hb) <| p_ (blk_below (g:=an) (o:=.cells #[.int .i64 (wrap64 (bt a0 0)),.string (a0.extract 1 (a6:Int).toNat)] 90 (0,0)) (pt_ a9.out) hb) <| a_ (below_step th_ hb);clear a5 a9 HB;obtain ⟨a5,a9,HB⟩:=z_;(try clear hb)))
  (try simp only [Act.put,List.setIfInBounds_toArray,List.set_cons_zero,List.set_cons_succ])
  (try clear af ag)
  (try clear b6)
  have H:=ax.out
  clear ax
  by_cases aq:aw.toList=a0.toList
  rotate_left
  ·rw [if_neg aq] at H
   have aj:=qc_ aq
   have ay:=qd_ aq
   (first|rw [aj]|(simp only [i64_w,i32_w];rw [aj])|skip)
   simp only [Option.some.injEq,Prod.mk.injEq] at H
   obtain ⟨rfl,rfl,rfl⟩:=H
   obtain ⟨af,ag⟩:=an2_ a7 ab
   have cg:=bb2_ a5.out
   go_wp2
   refine bodyPost_ret (results_ct rfl _ _ ae 90 #[.int .i64 0,.string (⟨#[]⟩:ByteArray)] (0,0) _ rfl tb_ Tryz.underlying90 rfl kr_) rfl ?_
   exact ⟨tq_1,th_⟩
  rw [if_pos aq] at H
  have aj:=qa_ aq
  have ay:=qb_ aq
  clear aq
  (first|rw [aj]|(simp only [i64_w,i32_w];rw [aj])|skip)
  simp only [Option.some.injEq,Prod.mk.injEq] at H
  obtain ⟨rfl,rfl,rfl⟩:=H
  obtain ⟨ag,af⟩:=an2_ ab a7
  have ch:=bb2_ a9.out
  have ci:=bb2_ a5.out
  go_wp2
  refine bodyPost_ret (results_ct rfl _ _ ae 90 #[.int .i64 (wrap64 (bt a0 0)),.string (a0.extract 1 (a6:Int).toNat)] (0,0) _ rfl tb_ Tryz.underlying90 rfl kr_) rfl ?_
  exact ⟨tq_1,th_⟩
 rw [if_pos c5] at H
 have b3:=de_ c5
 clear c5
 obtain ⟨ji6,hji6⟩:∃ j_:Int,(wrap64 (a6 - 1))=j_:=⟨_,rfl⟩
 replace H:(if 0≤(ji6) then (if (ji6) < (a0.size:Int) then (if (bt a0 (ji6))=0 then (spec_ReadEntry.l0 k1 a0 ji6) else (if 0 < (a0.size:Int) then (if 1≤a6 then (if a6≤(a0.size:Int) then ((spec_EntryWord.f k1 (wrap64 (bt a0 0)) (a0.extract 1 (a6:Int).toNat)).bind fun ap=>(if ap.toList=a0.toList then (some (wrap64 (bt a0 0),a0.extract 1 (a6:Int).toNat,true)) else (some (0,(⟨#[]⟩:ByteArray),false)))) else (none)) else (none)) else (none))) else (none)) else (none))=some (r1,r2,r3):=by first|(rw [hji6] at H;exact H)|(simp only [hji6] at H ⊢;exact H)
 have hji6w:(IntKind.i64.wrap (a6 - 1))=ji6:=(i64_w _).trans hji6
 obtain ⟨c7,H⟩:=fc_ H
 have cj:=de_ c7
 clear c7
 obtain ⟨c8,H⟩:=fc_ H
 have ck:=de_ c8
 clear c8
 have az:=m_ H
 clear H
 have p9:0≤((ji6):Int):=od_ tq_2
 have q9:(ji6) < (a0.size:Int):=od_ tq_2
 have hx9:=bt_at a0 (ji6)
 replace p9:=eq_true p9
 replace q9:=eq_true q9
 go_upto_if 18 with (fail)
 have H:=az.out
 clear az
 by_cases ar:(bt a0 (ji6))=0
 ·rw [if_pos ar] at H
  have ak:=qa_ ar
  have b0:=qb_ ar
  clear ar
  (first|rw [ak]|(simp only [i64_w,i32_w];rw [ak])|skip)
  have H':=m_ H
  clear H
  go_wp2
  go_roundg k1
  case measure=>have:=HK1.out;omega
  case rel=>exact ⟨(ji6),(by first|rfl|(simp;done)|(simp only [← hji6] <;> (first|rfl|simp))|(simp [*];done)),H',⟨tq_14⟩,⟨(kb_ a5)⟩,⟨th_⟩⟩
 rw [if_neg ar] at H
 have ak:=qc_ ar
 have b0:=qd_ ar
 (first|rw [ak]|(simp only [i64_w,i32_w];rw [ak])|skip)
 obtain ⟨bp,H⟩:=fc_ H
 have bq:=de_ bp
 have br:decide (0 < a0.size)=true:=de_ (by omega)
 clear bp
 obtain ⟨b7,H⟩:=fc_ H
 have bs:=eq_true b7
 have bu:=de_ b7
 clear b7
 obtain ⟨b8,H⟩:=fc_ H
 have bv:=eq_true b8
 have bw:=de_ b8
 clear b8
 obtain ⟨ap,cl,H⟩:=bd_ H
 have b1:=m_ H
 clear H
 try go_wp2
 have z_:=dw1_ a5 HB
 clear a5 HB
 obtain ⟨a5,HB⟩:=z_
 have cm:0≤(0:Int):=(by omega)
 have bx:0 < a0.size:=(by have:(0:Int) < (a0.size:Int):=od_ tq_2;omega)
 have hx13:∀ h:0 < a0.size,((a0[0]'h).toNat:Int)=bt a0 0:=bt_at a0 0
 clear cm
 have cn:(0 < (a0.size:Int))=True:=eq_true (od_ tq_2)
 replace bx:=eq_true bx
 refine start_ (n:=9) (S:=fun w'=>True) (ds:=[]) bq_151 kr_ rfl rfl trivial (fun hHeld=>?_);refine with_tabW spec_ReadEntry.tab6 spec_ReadEntry.bits6 (fun HT_ HW_=>?_)
 generalize wr.drew=cu at a5 HB hHeld ⊢
 refine yr_ 0 21 bq_152 HT_ ?_
 refine yr_ 3 24 bq_153 HT_ ?_
 refine yr_ 4 25 bq_154 HT_ ?_
 refine yr_ 5 26 bq_230 HT_ ?_
 refine take_ (i:=1) (N:=some 22) (v:=?_) (a':=?_) bq_231 rfl rfl (take_ofW HT_.out HW_.out kr_) (fun _ _ _ h=>h) (Or.inl ⟨(by rfl),?_⟩) hHeld ?_ ?_
 rotate_left
 ·intro w' _
  go_simp
  with_reducible rfl
 rotate_left
 ·simp only [Act.put,List.setIfInBounds_toArray,List.set_cons_zero,List.set_cons_succ,i64_w,i32_w]
  rfl
 refine yr_ 2 23 bq_155 HT_ ?_
 refine yr_ 6 27 bq_156 HT_ ?_
 refine one_ (i:=7) (N:=some 5) bq_29 rfl rfl (one_of HT_.out kr_) (by decide) (fun K hK=>?_)
 refine box_step ?hg (N:=5) ?hd (cs:=#[.int .i64 0,.string (⟨#[]⟩:ByteArray)]) (t:=90) ?hr ?_;(case hd=>rfl);(case hg=>rfl);(case hr=>first|(go_simp;done)|(go_simp;rfl))
 intro ao hg bz hbox hb
 have z_:=bx1_ (kb_ a5) th_ hb hbox hg
 clear a5 HB
 obtain ⟨a5,HB,aa,ca,cb,a8,ac⟩:=z_
 clear hb hbox hg
 refine hK.out _ _ trivial (fun hHeld=>?_)
 clear hK K
 refine nm_ (some 5) ?_
 refine one_ (i:=8) (N:=none) bq_157 rfl rfl (one_of HT_.out kr_) (by decide) (fun K hK=>?_)
 have hs20:bz.cell? ⟨ao,0,none⟩=some (.int .i64 0):=(blk_cell aa.out 0).trans rfl
 have hfs20:=blk_frozen aa.out 0
 obtain ⟨ah,ai⟩:=an2_ a8 ac
 have hs21:bz.cell? ⟨ao,1,none⟩=some (.string (⟨#[]⟩:ByteArray)):=(blk_cell aa.out 1).trans rfl
 have hfs21:=blk_frozen aa.out 1
 refine skip_ (w1:=?_) (by rfl) rfl ?_ ?_
 rotate_left
 ·go_simp
  rfl
 refine hK.out _ _ trivial (fun hHeld=>?_)
 clear hK K
 refine done_ (done_of HT_.out kr_) ?_
 have b9:=bb2_ aa.out
 go_upto_if 31 with (first|((with_reducible refine gate_callee (f:=77) rfl ?_);refine goesL_ (some 29) rfl rfl Tryz.func77 kr_ rfl #[.agg #[.int .i64 (wrap64 (bt a0 0)),.string (a0.extract 1 (a6:Int).toNat)]] rfl tq_0 ?_;(with_reducible refine (spec_EntryWord.calls k1 (wrap64 (bt a0 0)) (a0.extract 1 (a6:Int).toNat) ap _ cl.out).mono ?_);rintro e cv ⟨rfl,hb⟩;refine ⟨_,rfl,?_⟩;have z_:=p_ (blk_below (g:=ae) (o:=.cells #[.int .i64 0,.string (⟨#[]⟩:ByteArray)] 90 (0,0)) (fr_ a5.out a8.out) hb) <| p_ (blk_below (g:=ao) (o:=.cells #[.int .i64 (wrap64 (bt a0 0)),.string (a0.extract 1 (a6:Int).toNat)] 90 (0,0)) (pt_ aa.out) hb) <| a_ (below_step th_ hb);clear a5 aa HB;obtain ⟨a5,aa,HB⟩:=z_;(try clear hb)))
 (try simp only [Act.put,List.setIfInBounds_toArray,List.set_cons_zero,List.set_cons_succ])
 (try clear ah ai)
 (try clear b9)
 have H:=b1.out
 clear b1
 by_cases au:ap.toList=a0.toList
 rotate_left
 ·rw [if_neg au] at H
  have al:=qc_ au
  have b2:=qd_ au
  (first|rw [al]|(simp only [i64_w,i32_w];rw [al])|skip)
  simp only [Option.some.injEq,Prod.mk.injEq] at H
  obtain ⟨rfl,rfl,rfl⟩:=H
  obtain ⟨ah,ai⟩:=an2_ a8 ac
  have co:=bb2_ a5.out
  go_wp2
  refine bodyPost_ret (results_ct rfl _ _ ae 90 #[.int .i64 0,.string (⟨#[]⟩:ByteArray)] (0,0) _ rfl tb_ Tryz.underlying90 rfl kr_) rfl ?_
  exact ⟨tq_90,th_⟩
 rw [if_pos au] at H
 have al:=qa_ au
 have b2:=qb_ au
 clear au
 (first|rw [al]|(simp only [i64_w,i32_w];rw [al])|skip)
 simp only [Option.some.injEq,Prod.mk.injEq] at H
 obtain ⟨rfl,rfl,rfl⟩:=H
 obtain ⟨ai,ah⟩:=an2_ ac a8
 have cp:=bb2_ aa.out
 have cq:=bb2_ a5.out
 go_wp2
 refine bodyPost_ret (results_ct rfl _ _ ae 90 #[.int .i64 (wrap64 (bt a0 0)),.string (a0.extract 1 (a6:Int).toNat)] (0,0) _ rfl tb_ Tryz.underlying90 rfl kr_) rfl ?_
 exact ⟨tq_90,th_⟩

def spec_PagesFor.f (a0:Int):Option (Int):=if a0≤0 then (some 0) else (some (wrap64 ((wrap64 (Int.tdiv (wrap64 (a0 - 1)) 32))+1)))
theorem spec_PagesFor.calls (a0:Int) (r:Int) (w:World) (h:spec_PagesFor.f a0=some r) :
  Calls Tryz.prog 97 #[.int .i64 a0] w fun e w'=>e=.returned (.int .i64 r)∧Drawn0 w w':=by
 unfold spec_PagesFor.f at h
 have H:=h
 clear h
 by_cases c2:a0≤0
 ·rw [if_pos c2] at H
  have a5:=de_ c2
  clear c2
  obtain rfl:=oi_ H
  go_enter Tryz.func97,Tryz.ntmps97
  go_wp2
  go_ret
  exact ⟨tq_3,tq_8⟩
 rw [if_neg c2] at H
 have a5:=df_ c2
 clear c2
 obtain rfl:=oi_ H
 go_enter Tryz.func97,Tryz.ntmps97
 go_wp2
 go_ret
 exact ⟨tq_3,tq_8⟩

end Go.Proofs.YtleoknilacjakaaGreatDoor.PFnExactReadPart
