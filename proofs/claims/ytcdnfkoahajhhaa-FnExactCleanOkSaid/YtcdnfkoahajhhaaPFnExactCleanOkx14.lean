/- Contracts of Go functions, written by a program of ours over the print of the kit: each says that the call returns what the Lean function beside it computes. Conditions: as each theorem states them. -/
import Derived.Test.YtcdnfkoahajhhaaPkFnExactCleanOk
import Derived.Test.YtcdnfkoahajhhaaPFnExactCleanOkx0
import Derived.Test.YtcdnfkoahajhhaaPFnExactCleanOkx10
import Derived.Test.YtcdnfkoahajhhaaPFnExactCleanOkx12
import Derived.Test.YtcdnfkoahajhhaaPFnExactCleanOkx13
namespace Go.Proofs.Ytcdnfkoahajhhaa.PFnExactCleanOk
open Go.RowKit Go.Proofs.YtcdnfkoahajhhaaW.PrintWords Go.Proofs.YtcdnfkoahajhhaaW.PrintLast Go.Proofs.YtcdnfkoahajhhaaW.PrintMore
attribute [local go_sem] max2_int min2_int max_two min_two max_three min_three max_four min_four   -- for this text's walks alone
set_option linter.unusedVariables false
set_option linter.unusedSimpArgs false

/-! ### impl_pageText: function 234 -/
def impl_pageText.f (k : Nat) (a0_0 : ByteArray) (l0_1 : List (S206)) (a1_0 : Int) (a1_1 : Int) (a1_2 : Int) (a1_3 : Int) (a2 : Int) (a3 : Int) : Option (ByteArray) := (impl_PageAt.f a1_0 a1_1 a1_2 a1_3 a2 a3).bind fun t361 => ((impl_readWords.f k a0_0 l0_1 t361 4).bind fun t362 => ((strings_Join.f t362 (⟨#[]⟩ : ByteArray)).bind fun t365 => (some t365)))
theorem impl_pageText.mono : ∀ a0 a1 a2 a3 a4 a5 a6 a7 k, LeO (impl_pageText.f k a0 a1 a2 a3 a4 a5 a6 a7) (impl_pageText.f (k + 1) a0 a1 a2 a3 a4 a5 a6 a7) := by
 intro a0 a1 a2 a3 a4 a5 a6 a7 k
 unfold impl_pageText.f
 repeat' first
   | (with_reducible exact impl_readWords.mono ..)
   | (with_reducible exact LeO.refl _)
   | (with_reducible exact LeO.none _)
   | (with_reducible refine LeO.ite ?_ ?_)
   | (with_reducible refine LeO.bind ?_ (fun _ => ?_))
   | exact impl_readWords.mono ..
   | exact LeO.none _
   | refine LeO.ite ?_ ?_
   | refine LeO.bind ?_ (fun _ => ?_)
def impl_pageText.T1 : Bool × List (List Nat × List Nat) := (true, [([], []), ([], []), ([], []), ([], []), ([1, 2, 3], [1, 2, 3]), ([0, 4, 4], [0, 4]), ([5, 5], [5]), ([6, 6, 0, 1, 2, 3, 4, 5, 6], [6])])
def impl_pageText.B1 : List Nat := [0, 0, 0, 0, 14, 31, 63, 127]
theorem impl_pageText.tab1 : rtab .any (opsOf Try.f234 1) = impl_pageText.T1 := by kernel_rfl
theorem impl_pageText.bits1 : waitsOk impl_pageText.T1.2 impl_pageText.B1 = true := by kernel_rfl
set_option maxHeartbeats 8000000 in
set_option maxRecDepth 100000 in
theorem impl_pageText.calls (k : Nat) (a0_0 : ByteArray) (A0_1 : Option Addr) (c0_1 : Nat) (l0_1 : List (S206)) (a1_0 : Int) (a1_1 : Int) (a1_2 : Int) (a1_3 : Int) (a2 : Int) (a3 : Int) (r : ByteArray) (w : World) (hr0_1 : Kd.C k206 w A0_1 l0_1.length l0_1) (hc0_1 : l0_1.length ≤ c0_1) (h : impl_pageText.f k a0_0 l0_1 a1_0 a1_1 a1_2 a1_3 a2 a3 = some r) :
  Calls Try.prog 234 #[.agg #[.string a0_0, .slice A0_1 l0_1.length c0_1], .agg #[.int .i64 a1_0, .int .i64 a1_1, .int .i64 a1_2, .int .i64 a1_3], .int .i64 a2, .int .i64 a3] w fun e w' => e = .returned (.string r) ∧ Below w.heap.size w w' := by
 have hu113 := Try.underlying113
 have hu72 := Try.underlying72
 have HR0_1 := Aside0.mk hr0_1
 have HC0_1 := Aside0.mk hc0_1
 clear hr0_1 hc0_1
 have HB := Aside0.mk (Below.refl w.heap.size w)
 have H : ((impl_PageAt.f a1_0 a1_1 a1_2 a1_3 a2 a3).bind fun t361 => ((impl_readWords.f k a0_0 l0_1 t361 4).bind fun t362 => ((strings_Join.f t362 (⟨#[]⟩ : ByteArray)).bind fun t365 => (some t365)))) = some r := h
 clear h
 replace H := Option.bind_eq_some_iff.mp H
 obtain ⟨t361, A50, H⟩ := H
 replace H : ((impl_readWords.f k a0_0 l0_1 t361 4).bind fun t362 => ((strings_Join.f t362 (⟨#[]⟩ : ByteArray)).bind fun t365 => (some t365))) = some r := H
 have A5 := Aside0.mk A50
 clear A50
 replace H := Option.bind_eq_some_iff.mp H
 obtain ⟨t362, A60, H⟩ := H
 replace H : ((strings_Join.f t362 (⟨#[]⟩ : ByteArray)).bind fun t365 => (some t365)) = some r := H
 have A6 := Aside0.mk A60
 clear A60
 replace H := Option.bind_eq_some_iff.mp H
 obtain ⟨t365, A70, H⟩ := H
 replace H : (some t365) = some r := H
 have A7 := Aside0.mk A70
 clear A70
 obtain rfl := Option.some.inj H
 go_enter Try.func234, Try.ntmps234
 try go_wp2_with (first | ((with_reducible refine gate_dst (N := 4) rfl ?_); refine box_event ?hg (N := 4) ?hd (cs := #[.string a0_0, .slice A0_1 l0_1.length c0_1]) (t := 113) ?hr ?_; (case hd => rfl); (case hg => rfl); (case hr => first | (go_simp; done) | (go_simp; rfl)); intro gb359 hg w8 hbox hb; have z_ := p_ (below_step tq_0 hb) <| p_ (hbox) <| p_ (gb_ hg tq_0) <| a_ (gb_ hg tq_0); clear HB; obtain ⟨HB, BK359, GW359, GE359⟩ := z_; clear hb hbox hg) | ((with_reducible refine gate_dst (N := 5) rfl ?_); refine box_event ?hg (N := 5) ?hd (cs := #[.int .i64 a1_0, .int .i64 a1_1, .int .i64 a1_2, .int .i64 a1_3]) (t := 72) ?hr ?_; (case hd => rfl); (case hg => rfl); (case hr => first | (go_simp; done) | (go_simp; rfl)); intro gb360 hg w9 hbox hb; have z_ := p_ (blk_below tq_84 hb) <| p_ (below_step tq_132 hb) <| p_ (hbox) <| p_ (gb_ hg tq_132) <| p_ (gb_ hg tq_132) <| p_ (ltne_ hg (blk_lt tq_84)) <| a_ (gtne_ hg (blk_lt tq_84)); clear BK359 HB; obtain ⟨BK359, HB, BK360, GW360, GE360, NB359_360, NB360_359⟩ := z_; clear hb hbox hg))
 have z_ := p_ (blk_drew BK359.out) <| p_ (blk_drew BK360.out) <| a_ (below_drew1 HB.out)
 clear BK359 BK360 HB
 obtain ⟨BK359, BK360, HB⟩ := z_
 refine start_ (n := 8) (S := fun w' => w'.cell? ⟨gb359, 0, none⟩ = some (.string a0_0) ∧ w'.cell? ⟨gb359, 1, none⟩ = some (.slice A0_1 l0_1.length c0_1) ∧ w'.cell? ⟨gb360, 0, none⟩ = some (.int .i64 a1_0) ∧ w'.cell? ⟨gb360, 1, none⟩ = some (.int .i64 a1_1) ∧ w'.cell? ⟨gb360, 2, none⟩ = some (.int .i64 a1_2) ∧ w'.cell? ⟨gb360, 3, none⟩ = some (.int .i64 a1_3)) (ds := []) #[false, false, false, false, false, false, false, false] (by kernel_rfl) rfl rfl (bc2_ BK359.out (bk4_ BK360.out)) (fun hHeld => ?_); refine with_tabW impl_pageText.tab1 impl_pageText.bits1 (fun HT_ HW_ => ?_)
 generalize w9.drew = w10 at BK359 BK360 HB hHeld ⊢
 refine yq_ (i := 2) (N := some 11) #[false, false, true, false, false, false, false, false] (any_of HT_.out (by kernel_rfl)) ?_
 refine yq_ (i := 3) (N := some 12) #[false, false, true, true, false, false, false, false] (any_of HT_.out (by kernel_rfl)) ?_
 refine tk_ (i := 0) (N := some 9) #[true, false, true, true, false, false, false, false] (take_ofW HT_.out HW_.out (by kernel_rfl)) hHeld ?_
 refine tk_ (i := 1) (N := some 10) #[true, true, true, true, false, false, false, false] (take_ofW HT_.out HW_.out (by kernel_rfl)) hHeld ?_
 refine one_ (i := 4) (N := some 13) #[true, true, true, true, true, false, false, false] rfl rfl (one_of HT_.out (by kernel_rfl)) (by decide) (fun K hK => ?_)
 refine goes_ Try.func233 (by kernel_rfl) rfl #[.agg #[.int .i64 a1_0, .int .i64 a1_1, .int .i64 a1_2, .int .i64 a1_3], .int .i64 a2, .int .i64 a3] (by rfl) rfl rfl tq_1 ?_
 with_reducible refine (impl_PageAt.calls a1_0 a1_1 a1_2 a1_3 a2 a3 t361 _ A5.out).mono ?_
 rintro e w11 ⟨rfl, hb⟩
 refine ⟨_, rfl, ?_⟩
 have z_ := p_ (blk_below tq_84 hb) <| p_ (blk_below tq_150 hb) <| a_ (below_step tq_71 hb)
 clear BK359 BK360 HB
 obtain ⟨BK359, BK360, HB⟩ := z_
 (try clear hb)
 (try clear hb2)
 (try clear hk)
 (try clear hi)
 refine hK.out _ _ (bc2_ BK359.out (bk4_ BK360.out)) (fun hHeld => ?_)
 clear hK K
 refine nm_ (some 13) ?_
 refine one_ (i := 5) (N := some 14) #[true, true, true, true, true, true, false, false] rfl rfl (one_of HT_.out (by kernel_rfl)) (by decide) (fun K hK => ?_)
 refine goes_ Try.func260 (by kernel_rfl) rfl #[.agg #[.string a0_0, .slice A0_1 l0_1.length c0_1], .int .i64 t361, .int .i64 4] (by rfl) rfl rfl tq_1 ?_
 with_reducible refine (impl_readWords.calls k a0_0 _ _ l0_1 t361 4 t362 _ ?side1 ?side2 A6.out).mono ?_
 (case side1 => exact tq_4)
 (case side2 => exact HC0_1.out)
 rintro e w12 ⟨v363, rfl, ho0, hb⟩
 refine ⟨_, rfl, ?_⟩
 have z_ := p_ (Kd.R_lower ho0 (below_size tq_71)) <| p_ (blk_below tq_84 hb) <| p_ (blk_below tq_150 hb) <| a_ (below_step tq_71 hb)
 clear BK359 BK360 HB
 obtain ⟨HO364, BK359, BK360, HB⟩ := z_
 (try clear hb)
 (try clear hb2)
 (try clear hk)
 (try clear hi)
 (try clear ho0)
 obtain ⟨Ao13, co13, eo13⟩ := Kd.R_slice HO364.out
 (first | subst eo13 | (injection eo13 with f1_ f2_ f3_; have f4_ := f1_.symm; have f5_ := f3_.symm; clear f1_ f2_ f3_; subst f4_; subst f5_))
 refine hK.out _ _ (bc2_ BK359.out (bk4_ BK360.out)) (fun hHeld => ?_)
 clear hK K
 refine nm_ (some 14) ?_
 refine one_ (i := 6) (N := some 15) #[true, true, true, true, true, true, true, false] rfl rfl (one_of HT_.out (by kernel_rfl)) (by decide) (fun K hK => ?_)
 refine goes_ Try.func219 (by kernel_rfl) rfl #[.slice Ao13 t362.length co13, .string (⟨#[]⟩ : ByteArray)] (by rfl) rfl rfl tq_1 ?_
 with_reducible refine (strings_Join.calls _ _ t362 (⟨#[]⟩ : ByteArray) t365 _ ?side1 ?side2 A7.out).mono ?_
 (case side1 => repeat (first | exact (Kd.R_reads' HO364.out).2.2 | (with_reducible refine Kd.C_alloc ?_ _) | (with_reducible refine Kd.C_drewN ?_ _) | (with_reducible refine Kd.C_drew ?_)))
 (case side2 => exact (Kd.R_reads' HO364.out).2.1)
 rintro e w14 ⟨rfl, hb⟩
 refine ⟨_, rfl, ?_⟩
 have z_ := p_ (Kd.R_below (by (with_reducible repeat (first | apply Kd.R_alloc | apply Kd.R_drewN | apply Kd.R_drew)); exact HO364.out) hb) <| p_ (blk_below tq_84 hb) <| p_ (blk_below tq_150 hb) <| a_ (below_step tq_71 hb)
 clear HO364 BK359 BK360 HB
 obtain ⟨HO364, BK359, BK360, HB⟩ := z_
 (try clear hb)
 (try clear hb2)
 (try clear hk)
 (try clear hi)
 refine hK.out _ _ (bc2_ BK359.out (bk4_ BK360.out)) (fun hHeld => ?_)
 clear hK K
 refine nm_ (some 15) ?_
 refine yq_ (i := 7) (N := some 8) #[true, true, true, true, true, true, true, true] (any_of HT_.out (by kernel_rfl)) ?_
 refine done_ (done_of HT_.out (by kernel_rfl)) ?_
 try go_wp2
 go_ret
 exact ⟨tq_2, tq_71⟩

/-! ### impl_PageText: function 205 -/
def impl_PageText.f (k : Nat) (a0_0 : ByteArray) (l0_1 : List (S206)) (a1_0 : Int) (a1_1 : Int) (a1_2 : Int) (a1_3 : Int) (a2 : Int) (a3 : Int) : Option (ByteArray) := (impl_isPlaced.f k a0_0 l0_1 a1_0 a1_1 a1_2 a1_3).bind fun t368 => (if t368 = true then ((impl_PageAt.f a1_0 a1_1 a1_2 a1_3 a2 a3).bind fun t369 => (if t369 < 0 then (some (⟨#[]⟩ : ByteArray)) else ((impl_pageText.f k a0_0 l0_1 a1_0 a1_1 a1_2 a1_3 a2 a3).bind fun t370 => (some t370)))) else (some (⟨#[]⟩ : ByteArray)))
theorem impl_PageText.mono : ∀ a0 a1 a2 a3 a4 a5 a6 a7 k, LeO (impl_PageText.f k a0 a1 a2 a3 a4 a5 a6 a7) (impl_PageText.f (k + 1) a0 a1 a2 a3 a4 a5 a6 a7) := by
 intro a0 a1 a2 a3 a4 a5 a6 a7 k
 unfold impl_PageText.f
 repeat' first
   | (with_reducible exact impl_isPlaced.mono ..)
   | (with_reducible exact impl_pageText.mono ..)
   | (with_reducible exact LeO.refl _)
   | (with_reducible exact LeO.none _)
   | (with_reducible refine LeO.ite ?_ ?_)
   | (with_reducible refine LeO.bind ?_ (fun _ => ?_))
   | exact impl_isPlaced.mono ..
   | exact impl_pageText.mono ..
   | exact LeO.none _
   | refine LeO.ite ?_ ?_
   | refine LeO.bind ?_ (fun _ => ?_)
set_option maxHeartbeats 8000000 in
set_option maxRecDepth 100000 in
theorem impl_PageText.calls (k : Nat) (a0_0 : ByteArray) (A0_1 : Option Addr) (c0_1 : Nat) (l0_1 : List (S206)) (a1_0 : Int) (a1_1 : Int) (a1_2 : Int) (a1_3 : Int) (a2 : Int) (a3 : Int) (r : ByteArray) (w : World) (hr0_1 : Kd.C k206 w A0_1 l0_1.length l0_1) (hc0_1 : l0_1.length ≤ c0_1) (h : impl_PageText.f k a0_0 l0_1 a1_0 a1_1 a1_2 a1_3 a2 a3 = some r) :
  Calls Try.prog 205 #[.agg #[.string a0_0, .slice A0_1 l0_1.length c0_1], .agg #[.int .i64 a1_0, .int .i64 a1_1, .int .i64 a1_2, .int .i64 a1_3], .int .i64 a2, .int .i64 a3] w fun e w' => e = .returned (.string r) ∧ Below w.heap.size w w' := by
 have hu113 := Try.underlying113
 have hu72 := Try.underlying72
 have HR0_1 := Aside0.mk hr0_1
 have HC0_1 := Aside0.mk hc0_1
 clear hr0_1 hc0_1
 have HB := Aside0.mk (Below.refl w.heap.size w)
 have H : ((impl_isPlaced.f k a0_0 l0_1 a1_0 a1_1 a1_2 a1_3).bind fun t368 => (if t368 = true then ((impl_PageAt.f a1_0 a1_1 a1_2 a1_3 a2 a3).bind fun t369 => (if t369 < 0 then (some (⟨#[]⟩ : ByteArray)) else ((impl_pageText.f k a0_0 l0_1 a1_0 a1_1 a1_2 a1_3 a2 a3).bind fun t370 => (some t370)))) else (some (⟨#[]⟩ : ByteArray)))) = some r := h
 clear h
 replace H := Option.bind_eq_some_iff.mp H
 obtain ⟨t368, A50, H⟩ := H
 replace H : (if t368 = true then ((impl_PageAt.f a1_0 a1_1 a1_2 a1_3 a2 a3).bind fun t369 => (if t369 < 0 then (some (⟨#[]⟩ : ByteArray)) else ((impl_pageText.f k a0_0 l0_1 a1_0 a1_1 a1_2 a1_3 a2 a3).bind fun t370 => (some t370)))) else (some (⟨#[]⟩ : ByteArray))) = some r := H
 have A5 := Aside0.mk A50
 clear A50
 by_cases c6 : t368 = true
 ·subst c6
  have H1 : ((impl_PageAt.f a1_0 a1_1 a1_2 a1_3 a2 a3).bind fun t369 => (if t369 < 0 then (some (⟨#[]⟩ : ByteArray)) else ((impl_pageText.f k a0_0 l0_1 a1_0 a1_1 a1_2 a1_3 a2 a3).bind fun t370 => (some t370)))) = some r := by rw [if_pos rfl] at H; exact H
  clear H
  have H := H1
  clear H1
  replace H := Option.bind_eq_some_iff.mp H
  obtain ⟨t369, A70, H⟩ := H
  replace H : (if t369 < 0 then (some (⟨#[]⟩ : ByteArray)) else ((impl_pageText.f k a0_0 l0_1 a1_0 a1_1 a1_2 a1_3 a2 a3).bind fun t370 => (some t370))) = some r := H
  have A7 := Aside0.mk A70
  clear A70
  by_cases c8 : t369 < 0
  ·rw [if_pos c8] at H
   have c8b0 : decide (t369 < 0) = true := decide_eq_true c8
   clear c8
   obtain rfl := Option.some.inj H
   go_enter Try.func205, Try.ntmps205
   go_wp2_with (first | ((with_reducible refine gate_dst (N := 4) rfl ?_); refine box_event ?hg (N := 4) ?hd (cs := #[.string a0_0, .slice A0_1 l0_1.length c0_1]) (t := 113) ?hr ?_; (case hd => rfl); (case hg => rfl); (case hr => first | (go_simp; done) | (go_simp; rfl)); intro gb366 hg w9 hbox hb; have z_ := p_ (below_step tq_0 hb) <| p_ (hbox) <| p_ (gb_ hg tq_0) <| a_ (gb_ hg tq_0); clear HB; obtain ⟨HB, BK366, GW366, GE366⟩ := z_; clear hb hbox hg) | ((with_reducible refine gate_dst (N := 5) rfl ?_); refine box_event ?hg (N := 5) ?hd (cs := #[.int .i64 a1_0, .int .i64 a1_1, .int .i64 a1_2, .int .i64 a1_3]) (t := 72) ?hr ?_; (case hd => rfl); (case hg => rfl); (case hr => first | (go_simp; done) | (go_simp; rfl)); intro gb367 hg w10 hbox hb; have z_ := p_ (blk_below tq_31 hb) <| p_ (below_step tq_43 hb) <| p_ (hbox) <| p_ (gb_ hg tq_43) <| p_ (gb_ hg tq_43) <| p_ (ltne_ hg (blk_lt tq_31)) <| a_ (gtne_ hg (blk_lt tq_31)); clear BK366 HB; obtain ⟨BK366, HB, BK367, GW367, GE367, NB366_367, NB367_366⟩ := z_; clear hb hbox hg; have hnb11 := NB366_367.out; have hnc11 := NB367_366.out; have hcz12_0 := bc_ BK366.out 0; have hcz12_1 := bc_ BK366.out 1; have hfz12_0 := blk_frozen BK366.out 0; have hfz12_1 := blk_frozen BK366.out 1; have hcz13_0 := bc_ BK367.out 0; have hcz13_1 := bc_ BK367.out 1; have hcz13_2 := bc_ BK367.out 2; have hcz13_3 := bc_ BK367.out 3; have hfz13_0 := blk_frozen BK367.out 0; have hfz13_1 := blk_frozen BK367.out 1; have hfz13_2 := blk_frozen BK367.out 2; have hfz13_3 := blk_frozen BK367.out 3) | ((with_reducible refine gate_callee (f := 232) rfl ?_); refine goesL_ (some 11) rfl rfl Try.func232 (by kernel_rfl) rfl #[.agg #[.string a0_0, .slice A0_1 l0_1.length c0_1], .agg #[.int .i64 a1_0, .int .i64 a1_1, .int .i64 a1_2, .int .i64 a1_3]] rfl tq_1 ?_; (with_reducible refine (impl_isPlaced.calls k a0_0 _ _ l0_1 a1_0 a1_1 a1_2 a1_3 true _ ?side1 ?side2 A5.out).mono ?_); (case side1 => exact tq_4); (case side2 => exact HC0_1.out); rintro e w14 ⟨rfl, hb⟩; refine ⟨_, rfl, ?_⟩; have z_ := p_ (blk_below tq_31 hb) <| p_ (blk_below tq_83 hb) <| a_ (below_step tq_34 hb); clear BK366 BK367 HB; obtain ⟨BK366, BK367, HB⟩ := z_; (try clear hb); (try clear hb2); (try clear hk); (try clear hi); have hcz15_0 := bc_ BK367.out 0; have hcz15_1 := bc_ BK367.out 1; have hcz15_2 := bc_ BK367.out 2; have hcz15_3 := bc_ BK367.out 3; have hfz15_0 := blk_frozen BK367.out 0; have hfz15_1 := blk_frozen BK367.out 1; have hfz15_2 := blk_frozen BK367.out 2; have hfz15_3 := blk_frozen BK367.out 3) | (go_at_call 233; (with_reducible refine (impl_PageAt.calls a1_0 a1_1 a1_2 a1_3 a2 a3 t369 _ A7.out).mono ?_); rintro e w16 ⟨rfl, hb⟩; have z_ := p_ (blk_below tq_31 hb) <| p_ (blk_below tq_83 hb) <| a_ (below_step tq_34 hb); clear BK366 BK367 HB; obtain ⟨BK366, BK367, HB⟩ := z_; (try clear hb); (try clear hb2); (try clear hk); (try clear hi)))
   go_ret
   exact ⟨tq_2, tq_34⟩
  ·rw [if_neg c8] at H
   have c8b0 : decide (t369 < 0) = false := decide_eq_false c8
   clear c8
   replace H := Option.bind_eq_some_iff.mp H
   obtain ⟨t370, A170, H⟩ := H
   replace H : (some t370) = some r := H
   have A17 := Aside0.mk A170
   clear A170
   obtain rfl := Option.some.inj H
   go_enter Try.func205, Try.ntmps205
   go_wp2_with (first | ((with_reducible refine gate_dst (N := 4) rfl ?_); refine box_event ?hg (N := 4) ?hd (cs := #[.string a0_0, .slice A0_1 l0_1.length c0_1]) (t := 113) ?hr ?_; (case hd => rfl); (case hg => rfl); (case hr => first | (go_simp; done) | (go_simp; rfl)); intro gb366 hg w18 hbox hb; have z_ := p_ (below_step tq_0 hb) <| p_ (hbox) <| p_ (gb_ hg tq_0) <| a_ (gb_ hg tq_0); clear HB; obtain ⟨HB, BK366, GW366, GE366⟩ := z_; clear hb hbox hg) | ((with_reducible refine gate_dst (N := 5) rfl ?_); refine box_event ?hg (N := 5) ?hd (cs := #[.int .i64 a1_0, .int .i64 a1_1, .int .i64 a1_2, .int .i64 a1_3]) (t := 72) ?hr ?_; (case hd => rfl); (case hg => rfl); (case hr => first | (go_simp; done) | (go_simp; rfl)); intro gb367 hg w19 hbox hb; have z_ := p_ (blk_below tq_31 hb) <| p_ (below_step tq_43 hb) <| p_ (hbox) <| p_ (gb_ hg tq_43) <| p_ (gb_ hg tq_43) <| p_ (ltne_ hg (blk_lt tq_31)) <| a_ (gtne_ hg (blk_lt tq_31)); clear BK366 HB; obtain ⟨BK366, HB, BK367, GW367, GE367, NB366_367, NB367_366⟩ := z_; clear hb hbox hg; have hnb20 := NB366_367.out; have hnc20 := NB367_366.out; have hcz21_0 := bc_ BK366.out 0; have hcz21_1 := bc_ BK366.out 1; have hfz21_0 := blk_frozen BK366.out 0; have hfz21_1 := blk_frozen BK366.out 1; have hcz22_0 := bc_ BK367.out 0; have hcz22_1 := bc_ BK367.out 1; have hcz22_2 := bc_ BK367.out 2; have hcz22_3 := bc_ BK367.out 3; have hfz22_0 := blk_frozen BK367.out 0; have hfz22_1 := blk_frozen BK367.out 1; have hfz22_2 := blk_frozen BK367.out 2; have hfz22_3 := blk_frozen BK367.out 3) | ((with_reducible refine gate_callee (f := 232) rfl ?_); refine goesL_ (some 11) rfl rfl Try.func232 (by kernel_rfl) rfl #[.agg #[.string a0_0, .slice A0_1 l0_1.length c0_1], .agg #[.int .i64 a1_0, .int .i64 a1_1, .int .i64 a1_2, .int .i64 a1_3]] rfl tq_1 ?_; (with_reducible refine (impl_isPlaced.calls k a0_0 _ _ l0_1 a1_0 a1_1 a1_2 a1_3 true _ ?side1 ?side2 A5.out).mono ?_); (case side1 => exact tq_4); (case side2 => exact HC0_1.out); rintro e w23 ⟨rfl, hb⟩; refine ⟨_, rfl, ?_⟩; have z_ := p_ (blk_below tq_31 hb) <| p_ (blk_below tq_83 hb) <| a_ (below_step tq_34 hb); clear BK366 BK367 HB; obtain ⟨BK366, BK367, HB⟩ := z_; (try clear hb); (try clear hb2); (try clear hk); (try clear hi); have hcz24_0 := bc_ BK367.out 0; have hcz24_1 := bc_ BK367.out 1; have hcz24_2 := bc_ BK367.out 2; have hcz24_3 := bc_ BK367.out 3; have hfz24_0 := blk_frozen BK367.out 0; have hfz24_1 := blk_frozen BK367.out 1; have hfz24_2 := blk_frozen BK367.out 2; have hfz24_3 := blk_frozen BK367.out 3) | (go_at_call 233; (with_reducible refine (impl_PageAt.calls a1_0 a1_1 a1_2 a1_3 a2 a3 t369 _ A7.out).mono ?_); rintro e w25 ⟨rfl, hb⟩; have z_ := p_ (blk_below tq_31 hb) <| p_ (blk_below tq_83 hb) <| a_ (below_step tq_34 hb); clear BK366 BK367 HB; obtain ⟨BK366, BK367, HB⟩ := z_; (try clear hb); (try clear hb2); (try clear hk); (try clear hi); have hcz26_0 := bc_ BK366.out 0; have hcz26_1 := bc_ BK366.out 1; have hfz26_0 := blk_frozen BK366.out 0; have hfz26_1 := blk_frozen BK366.out 1; have hcz27_0 := bc_ BK367.out 0; have hcz27_1 := bc_ BK367.out 1; have hcz27_2 := bc_ BK367.out 2; have hcz27_3 := bc_ BK367.out 3; have hfz27_0 := blk_frozen BK367.out 0; have hfz27_1 := blk_frozen BK367.out 1; have hfz27_2 := blk_frozen BK367.out 2; have hfz27_3 := blk_frozen BK367.out 3) | ((with_reducible refine gate_callee (f := 234) rfl ?_); refine goesL_ (some 24) rfl rfl Try.func234 (by kernel_rfl) rfl #[.agg #[.string a0_0, .slice A0_1 l0_1.length c0_1], .agg #[.int .i64 a1_0, .int .i64 a1_1, .int .i64 a1_2, .int .i64 a1_3], .int .i64 a2, .int .i64 a3] rfl tq_1 ?_; (with_reducible refine (impl_pageText.calls k a0_0 _ _ l0_1 a1_0 a1_1 a1_2 a1_3 a2 a3 t370 _ ?side1 ?side2 A17.out).mono ?_); (case side1 => exact tq_4); (case side2 => exact HC0_1.out); rintro e w28 ⟨rfl, hb⟩; refine ⟨_, rfl, ?_⟩; have z_ := p_ (blk_below tq_31 hb) <| p_ (blk_below tq_83 hb) <| a_ (below_step tq_34 hb); clear BK366 BK367 HB; obtain ⟨BK366, BK367, HB⟩ := z_; (try clear hb); (try clear hb2); (try clear hk); (try clear hi)))
   go_ret
   exact ⟨tq_2, tq_34⟩
 ·replace c6 := Bool.eq_false_iff.mpr c6
  subst c6
  have H1 : (some (⟨#[]⟩ : ByteArray)) = some r := by rw [if_neg (show ¬ (false = true) by decide)] at H; exact H
  clear H
  have H := H1
  clear H1
  obtain rfl := Option.some.inj H
  go_enter Try.func205, Try.ntmps205
  go_wp2_with (first | ((with_reducible refine gate_dst (N := 4) rfl ?_); refine box_event ?hg (N := 4) ?hd (cs := #[.string a0_0, .slice A0_1 l0_1.length c0_1]) (t := 113) ?hr ?_; (case hd => rfl); (case hg => rfl); (case hr => first | (go_simp; done) | (go_simp; rfl)); intro gb366 hg w29 hbox hb; have z_ := p_ (below_step tq_0 hb) <| p_ (hbox) <| p_ (gb_ hg tq_0) <| a_ (gb_ hg tq_0); clear HB; obtain ⟨HB, BK366, GW366, GE366⟩ := z_; clear hb hbox hg) | ((with_reducible refine gate_dst (N := 5) rfl ?_); refine box_event ?hg (N := 5) ?hd (cs := #[.int .i64 a1_0, .int .i64 a1_1, .int .i64 a1_2, .int .i64 a1_3]) (t := 72) ?hr ?_; (case hd => rfl); (case hg => rfl); (case hr => first | (go_simp; done) | (go_simp; rfl)); intro gb367 hg w30 hbox hb; have z_ := p_ (blk_below tq_31 hb) <| p_ (below_step tq_43 hb) <| p_ (hbox) <| p_ (gb_ hg tq_43) <| p_ (gb_ hg tq_43) <| p_ (ltne_ hg (blk_lt tq_31)) <| a_ (gtne_ hg (blk_lt tq_31)); clear BK366 HB; obtain ⟨BK366, HB, BK367, GW367, GE367, NB366_367, NB367_366⟩ := z_; clear hb hbox hg; have hnb31 := NB366_367.out; have hnc31 := NB367_366.out; have hcz32_0 := bc_ BK366.out 0; have hcz32_1 := bc_ BK366.out 1; have hfz32_0 := blk_frozen BK366.out 0; have hfz32_1 := blk_frozen BK366.out 1; have hcz33_0 := bc_ BK367.out 0; have hcz33_1 := bc_ BK367.out 1; have hcz33_2 := bc_ BK367.out 2; have hcz33_3 := bc_ BK367.out 3; have hfz33_0 := blk_frozen BK367.out 0; have hfz33_1 := blk_frozen BK367.out 1; have hfz33_2 := blk_frozen BK367.out 2; have hfz33_3 := blk_frozen BK367.out 3) | ((with_reducible refine gate_callee (f := 232) rfl ?_); refine goesL_ (some 11) rfl rfl Try.func232 (by kernel_rfl) rfl #[.agg #[.string a0_0, .slice A0_1 l0_1.length c0_1], .agg #[.int .i64 a1_0, .int .i64 a1_1, .int .i64 a1_2, .int .i64 a1_3]] rfl tq_1 ?_; (with_reducible refine (impl_isPlaced.calls k a0_0 _ _ l0_1 a1_0 a1_1 a1_2 a1_3 false _ ?side1 ?side2 A5.out).mono ?_); (case side1 => exact tq_4); (case side2 => exact HC0_1.out); rintro e w34 ⟨rfl, hb⟩; refine ⟨_, rfl, ?_⟩; have z_ := p_ (blk_below tq_31 hb) <| p_ (blk_below tq_83 hb) <| a_ (below_step tq_34 hb); clear BK366 BK367 HB; obtain ⟨BK366, BK367, HB⟩ := z_; (try clear hb); (try clear hb2); (try clear hk); (try clear hi)))
  go_ret
  exact ⟨tq_2, tq_34⟩

/-! ### impl_ZeroPage: function 160 -/
def impl_ZeroPage.f (k : Nat) (a0_0 : ByteArray) (l0_1 : List (S206)) (a1_0 : Int) (a1_1 : Int) (a1_2 : Int) (a1_3 : Int) (a2 : Int) (a3 : Int) : Option (Bool) := (impl_PageText.f k a0_0 l0_1 a1_0 a1_1 a1_2 a1_3 a2 a3).bind fun t373 => ((impl_padded.f (⟨#[]⟩ : ByteArray) 32).bind fun t374 => (some (t373.toList == t374.toList)))
theorem impl_ZeroPage.mono : ∀ a0 a1 a2 a3 a4 a5 a6 a7 k, LeO (impl_ZeroPage.f k a0 a1 a2 a3 a4 a5 a6 a7) (impl_ZeroPage.f (k + 1) a0 a1 a2 a3 a4 a5 a6 a7) := by
 intro a0 a1 a2 a3 a4 a5 a6 a7 k
 unfold impl_ZeroPage.f
 repeat' first
   | (with_reducible exact impl_PageText.mono ..)
   | (with_reducible exact LeO.refl _)
   | (with_reducible exact LeO.none _)
   | (with_reducible refine LeO.ite ?_ ?_)
   | (with_reducible refine LeO.bind ?_ (fun _ => ?_))
   | exact impl_PageText.mono ..
   | exact LeO.none _
   | refine LeO.ite ?_ ?_
   | refine LeO.bind ?_ (fun _ => ?_)
set_option maxHeartbeats 8000000 in
set_option maxRecDepth 100000 in
theorem impl_ZeroPage.calls (k : Nat) (a0_0 : ByteArray) (A0_1 : Option Addr) (c0_1 : Nat) (l0_1 : List (S206)) (a1_0 : Int) (a1_1 : Int) (a1_2 : Int) (a1_3 : Int) (a2 : Int) (a3 : Int) (r : Bool) (w : World) (hr0_1 : Kd.C k206 w A0_1 l0_1.length l0_1) (hc0_1 : l0_1.length ≤ c0_1) (h : impl_ZeroPage.f k a0_0 l0_1 a1_0 a1_1 a1_2 a1_3 a2 a3 = some r) :
  Calls Try.prog 160 #[.agg #[.string a0_0, .slice A0_1 l0_1.length c0_1], .agg #[.int .i64 a1_0, .int .i64 a1_1, .int .i64 a1_2, .int .i64 a1_3], .int .i64 a2, .int .i64 a3] w fun e w' => e = .returned (.bool r) ∧ Below w.heap.size w w' := by
 have hu113 := Try.underlying113
 have hu72 := Try.underlying72
 have HR0_1 := Aside0.mk hr0_1
 have HC0_1 := Aside0.mk hc0_1
 clear hr0_1 hc0_1
 have HB := Aside0.mk (Below.refl w.heap.size w)
 have H : ((impl_PageText.f k a0_0 l0_1 a1_0 a1_1 a1_2 a1_3 a2 a3).bind fun t373 => ((impl_padded.f (⟨#[]⟩ : ByteArray) 32).bind fun t374 => (some (t373.toList == t374.toList)))) = some r := h
 clear h
 replace H := Option.bind_eq_some_iff.mp H
 obtain ⟨t373, A50, H⟩ := H
 replace H : ((impl_padded.f (⟨#[]⟩ : ByteArray) 32).bind fun t374 => (some (t373.toList == t374.toList))) = some r := H
 have A5 := Aside0.mk A50
 clear A50
 replace H := Option.bind_eq_some_iff.mp H
 obtain ⟨t374, A60, H⟩ := H
 replace H : (some (t373.toList == t374.toList)) = some r := H
 have A6 := Aside0.mk A60
 clear A60
 obtain rfl := Option.some.inj H
 go_enter Try.func160, Try.ntmps160
 go_wp2_with (first | ((with_reducible refine gate_dst (N := 4) rfl ?_); refine box_event ?hg (N := 4) ?hd (cs := #[.string a0_0, .slice A0_1 l0_1.length c0_1]) (t := 113) ?hr ?_; (case hd => rfl); (case hg => rfl); (case hr => first | (go_simp; done) | (go_simp; rfl)); intro gb371 hg w7 hbox hb; have z_ := p_ (below_step tq_0 hb) <| p_ (hbox) <| p_ (gb_ hg tq_0) <| a_ (gb_ hg tq_0); clear HB; obtain ⟨HB, BK371, GW371, GE371⟩ := z_; clear hb hbox hg) | ((with_reducible refine gate_dst (N := 5) rfl ?_); refine box_event ?hg (N := 5) ?hd (cs := #[.int .i64 a1_0, .int .i64 a1_1, .int .i64 a1_2, .int .i64 a1_3]) (t := 72) ?hr ?_; (case hd => rfl); (case hg => rfl); (case hr => first | (go_simp; done) | (go_simp; rfl)); intro gb372 hg w8 hbox hb; have z_ := p_ (blk_below tq_105 hb) <| p_ (below_step tq_131 hb) <| p_ (hbox) <| p_ (gb_ hg tq_131) <| p_ (gb_ hg tq_131) <| p_ (ltne_ hg (blk_lt tq_105)) <| a_ (gtne_ hg (blk_lt tq_105)); clear BK371 HB; obtain ⟨BK371, HB, BK372, GW372, GE372, NB371_372, NB372_371⟩ := z_; clear hb hbox hg; have hnb9 := NB371_372.out; have hnc9 := NB372_371.out; have hcz10_0 := bc_ BK371.out 0; have hcz10_1 := bc_ BK371.out 1; have hfz10_0 := blk_frozen BK371.out 0; have hfz10_1 := blk_frozen BK371.out 1; have hcz11_0 := bc_ BK372.out 0; have hcz11_1 := bc_ BK372.out 1; have hcz11_2 := bc_ BK372.out 2; have hcz11_3 := bc_ BK372.out 3; have hfz11_0 := blk_frozen BK372.out 0; have hfz11_1 := blk_frozen BK372.out 1; have hfz11_2 := blk_frozen BK372.out 2; have hfz11_3 := blk_frozen BK372.out 3) | ((with_reducible refine gate_callee (f := 205) rfl ?_); refine goesL_ (some 13) rfl rfl Try.func205 (by kernel_rfl) rfl #[.agg #[.string a0_0, .slice A0_1 l0_1.length c0_1], .agg #[.int .i64 a1_0, .int .i64 a1_1, .int .i64 a1_2, .int .i64 a1_3], .int .i64 a2, .int .i64 a3] rfl tq_1 ?_; (with_reducible refine (impl_PageText.calls k a0_0 _ _ l0_1 a1_0 a1_1 a1_2 a1_3 a2 a3 t373 _ ?side1 ?side2 A5.out).mono ?_); (case side1 => exact tq_4); (case side2 => exact HC0_1.out); rintro e w12 ⟨rfl, hb⟩; refine ⟨_, rfl, ?_⟩; have z_ := p_ (blk_below tq_105 hb) <| p_ (blk_below (by (with_reducible repeat (first | refine blk_drewN ?_ _ | refine blk_drew ?_ | refine blk_alloc ?_ _)); exact BK372.out) hb) <| a_ (below_step tq_114 hb); clear BK371 BK372 HB; obtain ⟨BK371, BK372, HB⟩ := z_; (try clear hb); (try clear hb2); (try clear hk); (try clear hi)) | ((with_reducible refine gate_callee (f := 143) rfl ?_); refine goesL_ (some 14) rfl rfl Try.func143 (by kernel_rfl) rfl #[.string (⟨#[]⟩ : ByteArray), .int .i64 32] rfl tq_1 ?_; (with_reducible refine (impl_padded.calls (⟨#[]⟩ : ByteArray) 32 t374 _ A6.out).mono ?_); rintro e w13 ⟨rfl, hb⟩; refine ⟨_, rfl, ?_⟩; have z_ := p_ (blk_below tq_105 hb) <| p_ (blk_below (by (with_reducible repeat (first | refine blk_drewN ?_ _ | refine blk_drew ?_ | refine blk_alloc ?_ _)); exact BK372.out) hb) <| a_ (below_step tq_114 hb); clear BK371 BK372 HB; obtain ⟨BK371, BK372, HB⟩ := z_; (try clear hb); (try clear hb2); (try clear hk); (try clear hi)))
 go_ret
 exact ⟨tq_2, tq_114⟩

/-! ### impl_CleanOk_1: function 159 -/
def clo159.q (k : Nat) (c0_0 : ByteArray) (l0_1 : List (S206)) (c1_0 : Int) (c1_1 : Int) (c1_2 : Int) (c1_3 : Int) (c2_0 : Int) (x : Int) : Option Bool := (impl_ZeroPage.f k c0_0 l0_1 c1_0 c1_1 c1_2 c1_3 c2_0 x).bind fun b => some (!b)
theorem clo159 (k : Nat) (x : Int) (gb0 : Nat) (c0_0 : ByteArray) (A0_1 : Option Addr) (n0_1 : Nat) (l0_1 : List (S206)) (gb1 : Nat) (c1_0 : Int) (c1_1 : Int) (c1_2 : Int) (c1_3 : Int) (gb2 : Nat) (c2_0 : Int) (b : Bool) (W : World) (hcl0 : W.heap[gb0]? = some (.cells #[.string c0_0, .slice A0_1 l0_1.length n0_1] 113 (0, 0))) (hcl1 : W.heap[gb1]? = some (.cells #[.int .i64 c1_0, .int .i64 c1_1, .int .i64 c1_2, .int .i64 c1_3] 72 (0, 0))) (hcl2 : W.heap[gb2]? = some (.cells #[.int .i64 c2_0] 3 (0, 0))) (hcr0_1 : Kd.C k206 W A0_1 l0_1.length l0_1) (hcn0_1 : l0_1.length ≤ n0_1) (h : clo159.q k c0_0 l0_1 c1_0 c1_1 c1_2 c1_3 c2_0 x = some b) : Calls Try.prog 159 (#[.int .i64 x] ++ #[.pointer (some ⟨gb0, 0, none⟩), .pointer (some ⟨gb1, 0, none⟩), .pointer (some ⟨gb2, 0, none⟩)]) W fun e w' => e = .returned (.bool b) ∧ Below W.heap.size W w' := by
 have hu3 := Try.underlying3
 have hu72 := Try.underlying72
 have hu113 := Try.underlying113
 have hb0 : gb0 < W.heap.size := blk_lt hcl0
 have hb1 : gb1 < W.heap.size := blk_lt hcl1
 have hb2 : gb2 < W.heap.size := blk_lt hcl2
 have h0_0 : W.cell? ⟨gb0, 0, none⟩ = some (.string c0_0) := (blk_cell hcl0 0).trans rfl
 have h0_1 : W.cell? ⟨gb0, 1, none⟩ = some (.slice A0_1 l0_1.length n0_1) := (blk_cell hcl0 1).trans rfl
 have h1_0 : W.cell? ⟨gb1, 0, none⟩ = some (.int .i64 c1_0) := (blk_cell hcl1 0).trans rfl
 have h1_1 : W.cell? ⟨gb1, 1, none⟩ = some (.int .i64 c1_1) := (blk_cell hcl1 1).trans rfl
 have h1_2 : W.cell? ⟨gb1, 2, none⟩ = some (.int .i64 c1_2) := (blk_cell hcl1 2).trans rfl
 have h1_3 : W.cell? ⟨gb1, 3, none⟩ = some (.int .i64 c1_3) := (blk_cell hcl1 3).trans rfl
 have h2_0 : W.cell? ⟨gb2, 0, none⟩ = some (.int .i64 c2_0) := (blk_cell hcl2 0).trans rfl
 unfold clo159.q at h
 obtain ⟨z, hz, hb⟩ := Option.bind_eq_some_iff.mp h
 obtain rfl := Option.some.inj hb
 have hZ := impl_ZeroPage.calls k c0_0 A0_1 n0_1 l0_1 c1_0 c1_1 c1_2 c1_3 c2_0 x z W hcr0_1 hcn0_1 hz
 clear hcl0 hcl1 hcl2 h hz
 show Calls Try.prog 159 #[.int .i64 x, .pointer (some ⟨gb0, 0, none⟩), .pointer (some ⟨gb1, 0, none⟩), .pointer (some ⟨gb2, 0, none⟩)] W _
 go_enter Try.func159, Try.ntmps159
 go_wp2_with (go_at_call 160; refine hZ.mono ?_; rintro e w1 ⟨rfl, hb⟩; have HB := Aside0.mk hb; clear hb)
 go_ret
 exact ⟨rfl, HB.out⟩
theorem clo159.mono : ∀ c0_0 l0_1 c1_0 c1_1 c1_2 c1_3 c2_0 x k, LeO (clo159.q k c0_0 l0_1 c1_0 c1_1 c1_2 c1_3 c2_0 x) (clo159.q (k + 1) c0_0 l0_1 c1_0 c1_1 c1_2 c1_3 c2_0 x) := by
 intro c0_0 l0_1 c1_0 c1_1 c1_2 c1_3 c2_0 x k
 unfold clo159.q
 exact LeO.bind (impl_ZeroPage.mono _ _ _ _ _ _ _ _ _) (fun _ => LeO.refl _)

/-! ### slices_IndexFunc_int: function 193 -/
def anyO (f : Int → Option Bool) : List Int → Option Bool
 | [] => some false
 | x :: r => (f x).bind fun b => if b = true then some true else anyO f r
theorem anyO_mono {f f' : Int → Option Bool} (h : ∀ x, LeO (f x) (f' x)) : ∀ l : List Int, LeO (anyO f l) (anyO f' l)
 | [] => LeO.refl _
 | x :: r => LeO.bind (h x) (fun _ => LeO.ite (LeO.refl _) (anyO_mono h r))
theorem idx193 (f : Int → Option Bool) (g : Nat) (lb : Array Value) (eg : ∀ args w, (callFunc g args).run Try.prog w = .ok (.enter g args) w) (A0 : Option Addr) (c0 : Nat) (l0 : List Int) (w : World) (hr0 : Kd.C (Kd.int .i64) w A0 l0.length l0) (hbig : l0.length ≤ 9223372036854775807)
  (hp : ∀ (x : Int) (b : Bool) (W : World), Below w.heap.size w W → f x = some b → Calls Try.prog g (#[.int .i64 x] ++ lb) W fun e w' => e = .returned (.bool b) ∧ Below w.heap.size w w') (r : Bool) (h : anyO f l0 = some r) :
  Calls Try.prog 193 #[.slice A0 l0.length c0, .func (.func g) #[] lb] w fun e w' => ∃ i : Int, e = .returned (.int .i64 i) ∧ decide (0 ≤ i) = r ∧ Below w.heap.size w w' := by
 have HR := Aside0.mk hr0
 have HP := Aside0.mk hp
 have HF := Aside0.mk h
 clear hr0 hp h
 go_enter Try.func193, Try.ntmps193
 go_wp2
 go_loopg [5, 8] l0.length (fun gg _ s8 wr => ∃ j : Nat, s8 = .int .i64 j ∧ j ≤ l0.length ∧ l0.length - j ≤ gg ∧ Aside0 (anyO f (l0.drop j) = some r) ∧ Aside0 (Below w.heap.size w wr))
 case atStart => exact ⟨0, rfl, Nat.zero_le _, Nat.le_refl _, ⟨(by rw [List.drop_zero]; exact HF.out)⟩, ⟨Below.refl _ _⟩⟩
 case round =>
  obtain ⟨j, rfl, hjn, hgg, HJ, HB⟩ := hrel
  by_cases hj : j < l0.length
  ·have hjz : (j : Int) < (l0.length : Int) := by omega
   have hd := HJ.out
   rw [List.drop_eq_getElem_cons hj] at hd
   obtain ⟨b, hb, hq⟩ := Option.bind_eq_some_iff.mp hd
   obtain ⟨ad, e1, hx⟩ := Kd.at_int HR.out (j : Int) (by omega) hjz
   cases e1
   have hx2 : wr.cell? (ad.add j) = some (.int .i64 l0[j]) := by
    have h1 := (HB.out.cell (World.block_lt_of_cell? w _ hx)).trans hx
    rw [Int.toNat_natCast] at h1
    rw [h1]
    congr 2
    simp [rd, List.getD_eq_getElem?_getD, List.getElem?_eq_getElem hj]
   have hcall := HP.out l0[j] b wr HB.out hb
   have HQ := Aside0.mk hq
   clear hd hq hb hx HJ
   generalize l0[j] = x at hx2 hcall
   cases b with
   | true =>
    go_wp2_with (go_at_fn g; refine hcall.mono ?_; rintro e w1 ⟨rfl, hb1⟩)
    go_ret
    exact ⟨_, rfl, (by have h_ : some true = some r := HQ.out; rw [← Option.some.inj h_]; simp), hb1⟩
   | false =>
    go_wp2_with (go_at_fn g; refine hcall.mono ?_; rintro e w1 ⟨rfl, hb1⟩)
    go_roundg (l0.length - (j + 1))
    case measure => omega
    case rel => exact ⟨j + 1, (by go_num), (by omega), Nat.le_refl _, ⟨(by simpa using HQ.out)⟩, ⟨hb1⟩⟩
  ·have hjz : ¬ ((j : Int) < (l0.length : Int)) := by omega
   have hd := HJ.out
   rw [List.drop_of_length_le (by omega)] at hd
   have hr : false = r := Option.some.inj hd
   subst hr
   clear hd
   go_wp2
   go_ret
   exact ⟨_, rfl, (by decide), HB.out⟩

/-! ### slices_ContainsFunc_int: function 145 -/
def slices_ContainsFunc_int_g159.f (k : Nat) (l0 : List Int) (c0_0 : ByteArray) (l0_1 : List (S206)) (c1_0 : Int) (c1_1 : Int) (c1_2 : Int) (c1_3 : Int) (c2_0 : Int) : Option (Bool) := if l0.length ≤ 9223372036854775807 then anyO (fun x => clo159.q k c0_0 l0_1 c1_0 c1_1 c1_2 c1_3 c2_0 x) l0 else none
theorem slices_ContainsFunc_int_g159.mono : ∀ l0 c0_0 l0_1 c1_0 c1_1 c1_2 c1_3 c2_0 k, LeO (slices_ContainsFunc_int_g159.f k l0 c0_0 l0_1 c1_0 c1_1 c1_2 c1_3 c2_0) (slices_ContainsFunc_int_g159.f (k + 1) l0 c0_0 l0_1 c1_0 c1_1 c1_2 c1_3 c2_0) := by
 intro l0 c0_0 l0_1 c1_0 c1_1 c1_2 c1_3 c2_0 k
 unfold slices_ContainsFunc_int_g159.f
 exact LeO.ite (anyO_mono (fun x => clo159.mono _ _ _ _ _ _ _ x k) l0) (LeO.refl _)
theorem slices_ContainsFunc_int_g159.calls (k : Nat) (A0 : Option Addr) (c0 : Nat) (l0 : List Int) (gb0 : Nat) (c0_0 : ByteArray) (A0_1 : Option Addr) (n0_1 : Nat) (l0_1 : List (S206)) (gb1 : Nat) (c1_0 : Int) (c1_1 : Int) (c1_2 : Int) (c1_3 : Int) (gb2 : Nat) (c2_0 : Int) (r : Bool) (w : World) (hr0 : Kd.C (Kd.int .i64) w A0 l0.length l0) (hc0 : l0.length ≤ c0) (hcl0 : w.heap[gb0]? = some (.cells #[.string c0_0, .slice A0_1 l0_1.length n0_1] 113 (0, 0))) (hcl1 : w.heap[gb1]? = some (.cells #[.int .i64 c1_0, .int .i64 c1_1, .int .i64 c1_2, .int .i64 c1_3] 72 (0, 0))) (hcl2 : w.heap[gb2]? = some (.cells #[.int .i64 c2_0] 3 (0, 0))) (hcr0_1 : Kd.C k206 w A0_1 l0_1.length l0_1) (hcn0_1 : l0_1.length ≤ n0_1) (h : slices_ContainsFunc_int_g159.f k l0 c0_0 l0_1 c1_0 c1_1 c1_2 c1_3 c2_0 = some r) :
  Calls Try.prog 145 #[.slice A0 l0.length c0, .func (.func 159) #[] #[.pointer (some ⟨gb0, 0, none⟩), .pointer (some ⟨gb1, 0, none⟩), .pointer (some ⟨gb2, 0, none⟩)]] w fun e w' => e = .returned (.bool r) ∧ Below w.heap.size w w' := by
 unfold slices_ContainsFunc_int_g159.f at h
 split at h
 case isFalse => cases h
 case isTrue hl =>
 have hI := idx193 (fun x => clo159.q k c0_0 l0_1 c1_0 c1_1 c1_2 c1_3 c2_0 x) 159 #[.pointer (some ⟨gb0, 0, none⟩), .pointer (some ⟨gb1, 0, none⟩), .pointer (some ⟨gb2, 0, none⟩)] (fun args W => enters_ Try.func159 rfl rfl args W) A0 c0 l0 w hr0 hl (fun x b W hW hq => (clo159 k x gb0 c0_0 A0_1 n0_1 l0_1 gb1 c1_0 c1_1 c1_2 c1_3 gb2 c2_0 b W (blk_below hcl0 hW) (blk_below hcl1 hW) (blk_below hcl2 hW) (Kd.C_below hcr0_1 hW) hcn0_1 hq).mono fun e w' hq => ⟨hq.1, hW.trans (hq.2.mono hW.size)⟩) r h
 clear h
 go_enter Try.func145, Try.ntmps145
 go_wp2_with (go_at_call 193; refine hI.mono ?_; rintro e w1 ⟨i, rfl, hi, hb⟩)
 go_ret
 exact ⟨(by rw [← hi]; rfl), hb⟩

/-! ### impl_CleanOk: function 76 -/
def impl_CleanOk.f (k : Nat) (a0_0 : ByteArray) (l0_1 : List (S206)) (a1_0 : Int) (a1_1 : Int) (a1_2 : Int) (a1_3 : Int) (a2 : Int) (a3_0 : Int) (l3_1 : List Int) (l3_2 : List (S49)) : Option (Bool) := (impl_PagesWith.f k l3_1 0).bind fun t379 => ((slices_ContainsFunc_int_g159.f k t379 a0_0 l0_1 a1_0 a1_1 a1_2 a1_3 a2).bind fun t382 => (some (!t382)))
theorem impl_CleanOk.mono : ∀ a0 a1 a2 a3 a4 a5 a6 a7 a8 a9 k, LeO (impl_CleanOk.f k a0 a1 a2 a3 a4 a5 a6 a7 a8 a9) (impl_CleanOk.f (k + 1) a0 a1 a2 a3 a4 a5 a6 a7 a8 a9) := by
 intro a0 a1 a2 a3 a4 a5 a6 a7 a8 a9 k
 unfold impl_CleanOk.f
 repeat' first
   | (with_reducible exact impl_PagesWith.mono ..)
   | (with_reducible exact slices_ContainsFunc_int_g159.mono ..)
   | (with_reducible exact LeO.refl _)
   | (with_reducible exact LeO.none _)
   | (with_reducible refine LeO.ite ?_ ?_)
   | (with_reducible refine LeO.bind ?_ (fun _ => ?_))
   | exact impl_PagesWith.mono ..
   | exact slices_ContainsFunc_int_g159.mono ..
   | exact LeO.none _
   | refine LeO.ite ?_ ?_
   | refine LeO.bind ?_ (fun _ => ?_)
set_option maxHeartbeats 8000000 in
set_option maxRecDepth 100000 in
theorem impl_CleanOk.calls (k : Nat) (a0_0 : ByteArray) (A0_1 : Option Addr) (c0_1 : Nat) (l0_1 : List (S206)) (a1_0 : Int) (a1_1 : Int) (a1_2 : Int) (a1_3 : Int) (a2 : Int) (a3_0 : Int) (A3_1 : Option Addr) (c3_1 : Nat) (l3_1 : List Int) (A3_2 : Option Addr) (c3_2 : Nat) (l3_2 : List (S49)) (r : Bool) (w : World) (hr0_1 : Kd.C k206 w A0_1 l0_1.length l0_1) (hc0_1 : l0_1.length ≤ c0_1) (hr3_1 : Kd.C (Kd.int .i64) w A3_1 l3_1.length l3_1) (hc3_1 : l3_1.length ≤ c3_1) (hr3_2 : Kd.C k49 w A3_2 l3_2.length l3_2) (hc3_2 : l3_2.length ≤ c3_2) (h : impl_CleanOk.f k a0_0 l0_1 a1_0 a1_1 a1_2 a1_3 a2 a3_0 l3_1 l3_2 = some r) :
  Calls Try.prog 76 #[.agg #[.string a0_0, .slice A0_1 l0_1.length c0_1], .agg #[.int .i64 a1_0, .int .i64 a1_1, .int .i64 a1_2, .int .i64 a1_3], .int .i64 a2, .agg #[.int .i64 a3_0, .slice A3_1 l3_1.length c3_1, .slice A3_2 l3_2.length c3_2]] w fun e w' => e = .returned (.bool r) ∧ Below w.heap.size w w' := by
 have hu113 := Try.underlying113
 have hu72 := Try.underlying72
 have hu69 := Try.underlying69
 have HR0_1 := Aside0.mk hr0_1
 have HC0_1 := Aside0.mk hc0_1
 clear hr0_1 hc0_1
 have HR3_1 := Aside0.mk hr3_1
 have HC3_1 := Aside0.mk hc3_1
 clear hr3_1 hc3_1
 have HR3_2 := Aside0.mk hr3_2
 have HC3_2 := Aside0.mk hc3_2
 clear hr3_2 hc3_2
 have HB := Aside0.mk (Below.refl w.heap.size w)
 have H : ((impl_PagesWith.f k l3_1 0).bind fun t379 => ((slices_ContainsFunc_int_g159.f k t379 a0_0 l0_1 a1_0 a1_1 a1_2 a1_3 a2).bind fun t382 => (some (!t382)))) = some r := h
 clear h
 replace H := Option.bind_eq_some_iff.mp H
 obtain ⟨t379, A50, H⟩ := H
 replace H : ((slices_ContainsFunc_int_g159.f k t379 a0_0 l0_1 a1_0 a1_1 a1_2 a1_3 a2).bind fun t382 => (some (!t382))) = some r := H
 have A5 := Aside0.mk A50
 clear A50
 replace H := Option.bind_eq_some_iff.mp H
 obtain ⟨t382, A60, H⟩ := H
 replace H : (some (!t382)) = some r := H
 have A6 := Aside0.mk A60
 clear A60
 obtain rfl := Option.some.inj H
 go_enter Try.func76, Try.ntmps76
 go_wp2_with (first | ((with_reducible refine gate_dst (N := 4) rfl ?_); refine box_event ?hg (N := 4) ?hd (cs := #[.string a0_0, .slice A0_1 l0_1.length c0_1]) (t := 113) ?hr ?_; (case hd => rfl); (case hg => rfl); (case hr => first | (go_simp; done) | (go_simp; rfl)); intro gb375 hg w7 hbox hb; have z_ := p_ (below_step tq_0 hb) <| p_ (hbox) <| p_ (gb_ hg tq_0) <| a_ (gb_ hg tq_0); clear HB; obtain ⟨HB, BK375, GW375, GE375⟩ := z_; clear hb hbox hg) | ((with_reducible refine gate_dst (N := 5) rfl ?_); refine box_event ?hg (N := 5) ?hd (cs := #[.int .i64 a1_0, .int .i64 a1_1, .int .i64 a1_2, .int .i64 a1_3]) (t := 72) ?hr ?_; (case hd => rfl); (case hg => rfl); (case hr => first | (go_simp; done) | (go_simp; rfl)); intro gb376 hg w8 hbox hb; have z_ := p_ (blk_below tq_51 hb) <| p_ (below_step tq_130 hb) <| p_ (hbox) <| p_ (gb_ hg tq_130) <| p_ (gb_ hg tq_130) <| p_ (ltne_ hg (blk_lt tq_51)) <| a_ (gtne_ hg (blk_lt tq_51)); clear BK375 HB; obtain ⟨BK375, HB, BK376, GW376, GE376, NB375_376, NB376_375⟩ := z_; clear hb hbox hg) | ((with_reducible refine gate_dst (N := 6) rfl ?_); refine box_event ?hg (N := 6) ?hd (cs := #[.int .i64 a2]) (t := 3) ?hr ?_; (case hd => rfl); (case hg => rfl); (case hr => first | (go_simp; done) | (go_simp; rfl)); intro gb377 hg w9 hbox hb; have z_ := p_ (blk_below tq_51 hb) <| p_ (blk_below tq_68 hb) <| p_ (below_step tq_113 hb) <| p_ (hbox) <| p_ (gb_ hg tq_113) <| p_ (gb_ hg tq_113) <| p_ (ltne_ hg (blk_lt tq_51)) <| p_ (gtne_ hg (blk_lt tq_51)) <| p_ (ltne_ hg (blk_lt tq_68)) <| a_ (gtne_ hg (blk_lt tq_68)); clear BK375 BK376 HB; obtain ⟨BK375, BK376, HB, BK377, GW377, GE377, NB375_377, NB377_375, NB376_377, NB377_376⟩ := z_; clear hb hbox hg) | ((with_reducible refine gate_dst (N := 7) rfl ?_); refine box_event ?hg (N := 7) ?hd (cs := #[.int .i64 a3_0, .slice A3_1 l3_1.length c3_1, .slice A3_2 l3_2.length c3_2]) (t := 69) ?hr ?_; (case hd => rfl); (case hg => rfl); (case hr => first | (go_simp; done) | (go_simp; rfl)); intro gb378 hg w10 hbox hb; have z_ := p_ (blk_below tq_51 hb) <| p_ (blk_below tq_68 hb) <| p_ (blk_below tq_82 hb) <| p_ (below_step tq_111 hb) <| p_ (hbox) <| p_ (gb_ hg tq_111) <| p_ (gb_ hg tq_111) <| p_ (ltne_ hg (blk_lt tq_51)) <| p_ (gtne_ hg (blk_lt tq_51)) <| p_ (ltne_ hg (blk_lt tq_68)) <| p_ (gtne_ hg (blk_lt tq_68)) <| p_ (ltne_ hg (blk_lt tq_82)) <| a_ (gtne_ hg (blk_lt tq_82)); clear BK375 BK376 BK377 HB; obtain ⟨BK375, BK376, BK377, HB, BK378, GW378, GE378, NB375_378, NB378_375, NB376_378, NB378_376, NB377_378, NB378_377⟩ := z_; clear hb hbox hg; have hnb11 := NB378_375.out; have hnc11 := NB375_378.out; have hnb12 := NB378_376.out; have hnc12 := NB376_378.out; have hnb13 := NB378_377.out; have hnc13 := NB377_378.out; have hcz14_0 := bc_ BK378.out 0; have hcz14_1 := bc_ BK378.out 1; have hcz14_2 := bc_ BK378.out 2; have hfz14_0 := blk_frozen BK378.out 0; have hfz14_1 := blk_frozen BK378.out 1; have hfz14_2 := blk_frozen BK378.out 2) | ((with_reducible refine gate_callee (f := 64) rfl ?_); refine goesL_ (some 11) rfl rfl Try.func64 (by kernel_rfl) rfl #[.slice A3_1 l3_1.length c3_1, .int .i64 0] rfl tq_1 ?_; (with_reducible refine (impl_PagesWith.calls k _ _ l3_1 0 t379 _ ?side1 ?side2 A5.out).mono ?_); (case side1 => exact tq_66); (case side2 => exact HC3_1.out); rintro e w15 ⟨v380, rfl, ho0, hb⟩; refine ⟨_, rfl, ?_⟩; have z_ := p_ (Kd.R_lower (Kd.R_newB ho0 (g := gb377) (o := .cells #[.int .i64 a2] 3 (0, 0)) tq_82) (below_size tq_72)) <| p_ (blk_below tq_51 hb) <| p_ (blk_below tq_68 hb) <| p_ (blk_below tq_82 hb) <| p_ (blk_below (by (with_reducible repeat (first | refine blk_drewN ?_ _ | refine blk_drew ?_ | refine blk_alloc ?_ _)); exact BK378.out) hb) <| a_ (below_step tq_72 hb); clear BK375 BK376 BK377 BK378 HB; obtain ⟨HO381, BK375, BK376, BK377, BK378, HB⟩ := z_; (try clear hb); (try clear hb2); (try clear hk); (try clear hi); (try clear ho0); obtain ⟨Ao16, co16, eo16⟩ := Kd.R_slice HO381.out; subst eo16) | ((with_reducible refine gate_callee (f := 145) rfl ?_); refine goesL_ (some 13) rfl rfl Try.func145 (by kernel_rfl) rfl #[.slice Ao16 t379.length co16, .func (.func 159) #[] #[.pointer (some ⟨gb375, 0, none⟩), .pointer (some ⟨gb376, 0, none⟩), .pointer (some ⟨gb377, 0, none⟩)]] rfl tq_1 ?_; (with_reducible refine (slices_ContainsFunc_int_g159.calls k _ _ t379 gb375 a0_0 ?cal0_1 ?cnl0_1 l0_1 gb376 a1_0 a1_1 a1_2 a1_3 gb377 a2 t382 _ ?side1 ?side2 ?side3 ?side4 ?side5 ?side6 ?side7 A6.out).mono ?_); (case side1 => repeat (first | exact (Kd.R_reads' HO381.out).2.2 | (with_reducible refine Kd.C_alloc ?_ _) | (with_reducible refine Kd.C_drewN ?_ _) | (with_reducible refine Kd.C_drew ?_))); (case side2 => exact (Kd.R_reads' HO381.out).2.1); (case side3 => (with_reducible repeat (first | refine blk_drewN ?_ _ | refine blk_drew ?_ | refine blk_alloc ?_ _)); exact BK375.out); (case side4 => (with_reducible repeat (first | refine blk_drewN ?_ _ | refine blk_drew ?_ | refine blk_alloc ?_ _)); exact BK376.out); (case side5 => (with_reducible repeat (first | refine blk_drewN ?_ _ | refine blk_drew ?_ | refine blk_alloc ?_ _)); exact BK377.out); (case side6 => exact tq_4); (case side7 => exact HC0_1.out); rintro e w17 ⟨rfl, hb⟩; refine ⟨_, rfl, ?_⟩; have z_ := p_ (Kd.R_below (by (with_reducible repeat (first | apply Kd.R_alloc | apply Kd.R_drewN | apply Kd.R_drew)); exact HO381.out) hb) <| p_ (blk_below tq_51 hb) <| p_ (blk_below tq_68 hb) <| p_ (blk_below tq_82 hb) <| p_ (blk_below (by (with_reducible repeat (first | refine blk_drewN ?_ _ | refine blk_drew ?_ | refine blk_alloc ?_ _)); exact BK378.out) hb) <| a_ (below_step tq_72 hb); clear HO381 BK375 BK376 BK377 BK378 HB; obtain ⟨HO381, BK375, BK376, BK377, BK378, HB⟩ := z_; (try clear hb); (try clear hb2); (try clear hk); (try clear hi)))
 go_ret
 exact ⟨tq_2, tq_72⟩

/-! ### laws_eqCell: function 206 -/
def laws_eqCell.f (a0_0 : Int) (a0_1 : ByteArray) (a0_2 : Bool) (a1_0 : Int) (a1_1 : ByteArray) (a1_2 : Bool) : Option (Bool) := if a0_0 = a1_0 then (if a0_1.toList = a1_1.toList then (if (a0_2 != a1_2) = true then (some false) else (some true)) else (some false)) else (some false)
set_option maxHeartbeats 8000000 in
set_option maxRecDepth 100000 in
theorem laws_eqCell.calls (a0_0 : Int) (a0_1 : ByteArray) (a0_2 : Bool) (a1_0 : Int) (a1_1 : ByteArray) (a1_2 : Bool) (r : Bool) (w : World) (h : laws_eqCell.f a0_0 a0_1 a0_2 a1_0 a1_1 a1_2 = some r) :
  Calls Try.prog 206 #[.agg #[.int .i64 a0_0, .string a0_1, .bool a0_2], .agg #[.int .i64 a1_0, .string a1_1, .bool a1_2]] w fun e w' => e = .returned (.bool r) ∧ Below w.heap.size w w' := by
 have hu206 := Try.underlying206
 have HB := Aside0.mk (Below.refl w.heap.size w)
 have H : (if a0_0 = a1_0 then (if a0_1.toList = a1_1.toList then (if (a0_2 != a1_2) = true then (some false) else (some true)) else (some false)) else (some false)) = some r := h
 clear h
 by_cases c3 : a0_0 = a1_0
 ·rw [if_pos c3] at H
  have c3b0 : (a0_0 == a1_0) = true := beq_iff_eq.mpr c3
  have c3b1 : (a0_0 != a1_0) = false := bne_eq_false_iff_eq.mpr c3
  clear c3
  by_cases c4 : a0_1.toList = a1_1.toList
  ·rw [if_pos c4] at H
   have c4b0 : (a0_1.toList == a1_1.toList) = true := beq_iff_eq.mpr c4
   have c4b1 : (a0_1.toList != a1_1.toList) = false := bne_eq_false_iff_eq.mpr c4
   clear c4
   by_cases c5 : (a0_2 != a1_2) = true
   ·rw [if_pos c5] at H
    have c5b0 : (a0_2 != a1_2) = true := c5
    (try (have c5b1 : decide (a0_2 = a1_2) = false := by simpa using c5))
    (try (have c5b2 : (a0_2 == a1_2) = false := by simpa using c5))
    (try (have c5b3 : ¬ (a0_2 = a1_2) := by simpa using c5))
    clear c5
    obtain rfl := Option.some.inj H
    go_enter Try.func206, Try.ntmps206
    go_wp2_with (first | ((with_reducible refine gate_dst (N := 2) rfl ?_); refine box_event ?hg (N := 2) ?hd (cs := #[.int .i64 a0_0, .string a0_1, .bool a0_2]) (t := 206) ?hr ?_; (case hd => rfl); (case hg => rfl); (case hr => first | (go_simp; done) | (go_simp; rfl)); intro gb383 hg w6 hbox hb; have z_ := p_ (below_step tq_0 hb) <| p_ (hbox) <| p_ (gb_ hg tq_0) <| a_ (gb_ hg tq_0); clear HB; obtain ⟨HB, BK383, GW383, GE383⟩ := z_; clear hb hbox hg) | ((with_reducible refine gate_dst (N := 3) rfl ?_); refine box_event ?hg (N := 3) ?hd (cs := #[.int .i64 a1_0, .string a1_1, .bool a1_2]) (t := 206) ?hr ?_; (case hd => rfl); (case hg => rfl); (case hr => first | (go_simp; done) | (go_simp; rfl)); intro gb384 hg w7 hbox hb; have z_ := p_ (blk_below tq_48 hb) <| p_ (below_step tq_23 hb) <| p_ (hbox) <| p_ (gb_ hg tq_23) <| p_ (gb_ hg tq_23) <| p_ (ltne_ hg (blk_lt tq_48)) <| a_ (gtne_ hg (blk_lt tq_48)); clear BK383 HB; obtain ⟨BK383, HB, BK384, GW384, GE384, NB383_384, NB384_383⟩ := z_; clear hb hbox hg; have hnb8 := NB383_384.out; have hnc8 := NB384_383.out; have hcz9_0 := bc_ BK383.out 0; have hcz9_1 := bc_ BK383.out 1; have hcz9_2 := bc_ BK383.out 2; have hfz9_0 := blk_frozen BK383.out 0; have hfz9_1 := blk_frozen BK383.out 1; have hfz9_2 := blk_frozen BK383.out 2; have hcz10_0 := bc_ BK384.out 0; have hcz10_1 := bc_ BK384.out 1; have hcz10_2 := bc_ BK384.out 2; have hfz10_0 := blk_frozen BK384.out 0; have hfz10_1 := blk_frozen BK384.out 1; have hfz10_2 := blk_frozen BK384.out 2))
    go_ret
    exact ⟨tq_2, tq_80⟩
   ·rw [if_neg c5] at H
    have c5b0 : (a0_2 != a1_2) = false := by simpa using c5
    (try (have c5b1 : decide (a0_2 = a1_2) = true := by simpa using c5))
    (try (have c5b2 : (a0_2 == a1_2) = true := by simpa using c5))
    clear c5
    obtain rfl := Option.some.inj H
    go_enter Try.func206, Try.ntmps206
    go_wp2_with (first | ((with_reducible refine gate_dst (N := 2) rfl ?_); refine box_event ?hg (N := 2) ?hd (cs := #[.int .i64 a0_0, .string a0_1, .bool a0_2]) (t := 206) ?hr ?_; (case hd => rfl); (case hg => rfl); (case hr => first | (go_simp; done) | (go_simp; rfl)); intro gb383 hg w11 hbox hb; have z_ := p_ (below_step tq_0 hb) <| p_ (hbox) <| p_ (gb_ hg tq_0) <| a_ (gb_ hg tq_0); clear HB; obtain ⟨HB, BK383, GW383, GE383⟩ := z_; clear hb hbox hg) | ((with_reducible refine gate_dst (N := 3) rfl ?_); refine box_event ?hg (N := 3) ?hd (cs := #[.int .i64 a1_0, .string a1_1, .bool a1_2]) (t := 206) ?hr ?_; (case hd => rfl); (case hg => rfl); (case hr => first | (go_simp; done) | (go_simp; rfl)); intro gb384 hg w12 hbox hb; have z_ := p_ (blk_below tq_48 hb) <| p_ (below_step tq_23 hb) <| p_ (hbox) <| p_ (gb_ hg tq_23) <| p_ (gb_ hg tq_23) <| p_ (ltne_ hg (blk_lt tq_48)) <| a_ (gtne_ hg (blk_lt tq_48)); clear BK383 HB; obtain ⟨BK383, HB, BK384, GW384, GE384, NB383_384, NB384_383⟩ := z_; clear hb hbox hg; have hnb13 := NB383_384.out; have hnc13 := NB384_383.out; have hcz14_0 := bc_ BK383.out 0; have hcz14_1 := bc_ BK383.out 1; have hcz14_2 := bc_ BK383.out 2; have hfz14_0 := blk_frozen BK383.out 0; have hfz14_1 := blk_frozen BK383.out 1; have hfz14_2 := blk_frozen BK383.out 2; have hcz15_0 := bc_ BK384.out 0; have hcz15_1 := bc_ BK384.out 1; have hcz15_2 := bc_ BK384.out 2; have hfz15_0 := blk_frozen BK384.out 0; have hfz15_1 := blk_frozen BK384.out 1; have hfz15_2 := blk_frozen BK384.out 2))
    go_ret
    exact ⟨tq_2, tq_80⟩
  ·rw [if_neg c4] at H
   have c4b0 : (a0_1.toList == a1_1.toList) = false := beq_eq_false_iff_ne.mpr c4
   have c4b1 : (a0_1.toList != a1_1.toList) = true := bne_iff_ne.mpr c4
   obtain rfl := Option.some.inj H
   go_enter Try.func206, Try.ntmps206
   go_wp2_with (first | ((with_reducible refine gate_dst (N := 2) rfl ?_); refine box_event ?hg (N := 2) ?hd (cs := #[.int .i64 a0_0, .string a0_1, .bool a0_2]) (t := 206) ?hr ?_; (case hd => rfl); (case hg => rfl); (case hr => first | (go_simp; done) | (go_simp; rfl)); intro gb383 hg w16 hbox hb; have z_ := p_ (below_step tq_0 hb) <| p_ (hbox) <| p_ (gb_ hg tq_0) <| a_ (gb_ hg tq_0); clear HB; obtain ⟨HB, BK383, GW383, GE383⟩ := z_; clear hb hbox hg) | ((with_reducible refine gate_dst (N := 3) rfl ?_); refine box_event ?hg (N := 3) ?hd (cs := #[.int .i64 a1_0, .string a1_1, .bool a1_2]) (t := 206) ?hr ?_; (case hd => rfl); (case hg => rfl); (case hr => first | (go_simp; done) | (go_simp; rfl)); intro gb384 hg w17 hbox hb; have z_ := p_ (blk_below tq_48 hb) <| p_ (below_step tq_23 hb) <| p_ (hbox) <| p_ (gb_ hg tq_23) <| p_ (gb_ hg tq_23) <| p_ (ltne_ hg (blk_lt tq_48)) <| a_ (gtne_ hg (blk_lt tq_48)); clear BK383 HB; obtain ⟨BK383, HB, BK384, GW384, GE384, NB383_384, NB384_383⟩ := z_; clear hb hbox hg; have hnb18 := NB383_384.out; have hnc18 := NB384_383.out; have hcz19_0 := bc_ BK383.out 0; have hcz19_1 := bc_ BK383.out 1; have hcz19_2 := bc_ BK383.out 2; have hfz19_0 := blk_frozen BK383.out 0; have hfz19_1 := blk_frozen BK383.out 1; have hfz19_2 := blk_frozen BK383.out 2; have hcz20_0 := bc_ BK384.out 0; have hcz20_1 := bc_ BK384.out 1; have hcz20_2 := bc_ BK384.out 2; have hfz20_0 := blk_frozen BK384.out 0; have hfz20_1 := blk_frozen BK384.out 1; have hfz20_2 := blk_frozen BK384.out 2))
   go_ret
   exact ⟨tq_2, tq_80⟩
 ·rw [if_neg c3] at H
  have c3b0 : (a0_0 == a1_0) = false := beq_eq_false_iff_ne.mpr c3
  have c3b1 : (a0_0 != a1_0) = true := bne_iff_ne.mpr c3
  obtain rfl := Option.some.inj H
  go_enter Try.func206, Try.ntmps206
  go_wp2_with (first | ((with_reducible refine gate_dst (N := 2) rfl ?_); refine box_event ?hg (N := 2) ?hd (cs := #[.int .i64 a0_0, .string a0_1, .bool a0_2]) (t := 206) ?hr ?_; (case hd => rfl); (case hg => rfl); (case hr => first | (go_simp; done) | (go_simp; rfl)); intro gb383 hg w21 hbox hb; have z_ := p_ (below_step tq_0 hb) <| p_ (hbox) <| p_ (gb_ hg tq_0) <| a_ (gb_ hg tq_0); clear HB; obtain ⟨HB, BK383, GW383, GE383⟩ := z_; clear hb hbox hg) | ((with_reducible refine gate_dst (N := 3) rfl ?_); refine box_event ?hg (N := 3) ?hd (cs := #[.int .i64 a1_0, .string a1_1, .bool a1_2]) (t := 206) ?hr ?_; (case hd => rfl); (case hg => rfl); (case hr => first | (go_simp; done) | (go_simp; rfl)); intro gb384 hg w22 hbox hb; have z_ := p_ (blk_below tq_48 hb) <| p_ (below_step tq_23 hb) <| p_ (hbox) <| p_ (gb_ hg tq_23) <| p_ (gb_ hg tq_23) <| p_ (ltne_ hg (blk_lt tq_48)) <| a_ (gtne_ hg (blk_lt tq_48)); clear BK383 HB; obtain ⟨BK383, HB, BK384, GW384, GE384, NB383_384, NB384_383⟩ := z_; clear hb hbox hg; have hnb23 := NB383_384.out; have hnc23 := NB384_383.out; have hcz24_0 := bc_ BK383.out 0; have hcz24_1 := bc_ BK383.out 1; have hcz24_2 := bc_ BK383.out 2; have hfz24_0 := blk_frozen BK383.out 0; have hfz24_1 := blk_frozen BK383.out 1; have hfz24_2 := blk_frozen BK383.out 2; have hcz25_0 := bc_ BK384.out 0; have hcz25_1 := bc_ BK384.out 1; have hcz25_2 := bc_ BK384.out 2; have hfz25_0 := blk_frozen BK384.out 0; have hfz25_1 := blk_frozen BK384.out 1; have hfz25_2 := blk_frozen BK384.out 2))
  go_ret
  exact ⟨tq_2, tq_80⟩

end Go.Proofs.Ytcdnfkoahajhhaa.PFnExactCleanOk
