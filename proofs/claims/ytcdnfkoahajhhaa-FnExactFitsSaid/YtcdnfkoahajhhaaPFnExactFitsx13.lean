/- Contracts of Go functions, written by a program of ours over the print of the kit: each says that the call returns what the Lean function beside it computes. Conditions: as each theorem states them. -/
import Derived.Test.YtcdnfkoahajhhaaPkFnExactFits
import Derived.Test.YtcdnfkoahajhhaaPFnExactFitsx0
import Derived.Test.YtcdnfkoahajhhaaPFnExactFitsx1
import Derived.Test.YtcdnfkoahajhhaaPFnExactFitsx2
import Derived.Test.YtcdnfkoahajhhaaPFnExactFitsx4
import Derived.Test.YtcdnfkoahajhhaaPFnExactFitsx5
import Derived.Test.YtcdnfkoahajhhaaPFnExactFitsx8
import Derived.Test.YtcdnfkoahajhhaaPFnExactFitsx9
import Derived.Test.YtcdnfkoahajhhaaPFnExactFitsx12
namespace Go.Proofs.Ytcdnfkoahajhhaa.PFnExactFits
open Go.RowKit Go.Proofs.YtcdnfkoahajhhaaW.PrintWords Go.Proofs.YtcdnfkoahajhhaaW.PrintLast Go.Proofs.YtcdnfkoahajhhaaW.PrintMore
attribute [local go_sem] max2_int min2_int max_two min_two max_three min_three max_four min_four   -- for this text's walks alone
set_option linter.unusedVariables false
set_option linter.unusedSimpArgs false

/-! ### laws_FnExactFits: function 10 -/
def laws_FnExactFits.f (k : Nat) (a0_0 : Int) (l0_1 : List Int) (l0_2 : List (S44)) (l1_0 : List (S35)) : Option (Bool) := (laws_szPart.f k a0_0 l0_1 l0_2 1048576).bind fun t305 => (if t305 < 0 then (some true) else ((laws_szView.f k l1_0 t305).bind fun t306 => (if t306 < 0 then (some true) else ((laws_toPart.f k a0_0 l0_1 l0_2).bind fun bt307 => ((laws_toView.f k l1_0).bind fun t314 => ((spec_Fits.f k bt307.1 bt307.2.1 bt307.2.2 t314).bind fun t317 => ((laws_toPart.f k a0_0 l0_1 l0_2).bind fun bt318 => ((laws_toView.f k l1_0).bind fun t326 => ((impl_Fits.f k bt318.1 bt318.2.1 bt318.2.2 t326).bind fun t330 => (if (t330 != t317) = true then (some false) else ((laws_toPart.f k a0_0 l0_1 l0_2).bind fun bt331 => ((laws_eqPart.f k bt318.1 bt318.2.1 bt318.2.2 bt331.1 bt331.2.1 bt331.2.2).bind fun t338 => (if t338 = true then ((laws_toView.f k l1_0).bind fun t339 => ((laws_eqView.f k t326 t339).bind fun t342 => (if t342 = true then (some true) else (some false)))) else (some false))))))))))))))
theorem laws_FnExactFits.mono : ∀ a0 a1 a2 a3 k, LeO (laws_FnExactFits.f k a0 a1 a2 a3) (laws_FnExactFits.f (k + 1) a0 a1 a2 a3) := by
 intro a0 a1 a2 a3 k
 unfold laws_FnExactFits.f
 repeat' first
   | (with_reducible exact impl_Fits.mono _ _ _ _ _)
   | (with_reducible exact laws_eqPart.mono _ _ _ _ _ _ _)
   | (with_reducible exact laws_eqView.mono _ _ _)
   | (with_reducible exact laws_szPart.mono _ _ _ _ _)
   | (with_reducible exact laws_szView.mono _ _ _)
   | (with_reducible exact laws_toPart.mono _ _ _ _)
   | (with_reducible exact laws_toView.mono _ _)
   | (with_reducible exact spec_Fits.mono _ _ _ _ _)
   | (with_reducible exact LeO.refl _)
   | (with_reducible exact LeO.none _)
   | (with_reducible refine LeO.ite ?_ ?_)
   | (with_reducible refine LeO.bind ?_ (fun _ => ?_))
   | exact impl_Fits.mono _ _ _ _ _
   | exact laws_eqPart.mono _ _ _ _ _ _ _
   | exact laws_eqView.mono _ _ _
   | exact laws_szPart.mono _ _ _ _ _
   | exact laws_szView.mono _ _ _
   | exact laws_toPart.mono _ _ _ _
   | exact laws_toView.mono _ _
   | exact spec_Fits.mono _ _ _ _ _
   | exact LeO.none _
   | refine LeO.ite ?_ ?_
   | refine LeO.bind ?_ (fun _ => ?_)
set_option maxHeartbeats 8000000 in
set_option maxRecDepth 100000 in
theorem laws_FnExactFits.calls (k : Nat) (a0_0 : Int) (A0_1 : Option Addr) (c0_1 : Nat) (l0_1 : List Int) (A0_2 : Option Addr) (c0_2 : Nat) (l0_2 : List (S44)) (A1_0 : Option Addr) (c1_0 : Nat) (l1_0 : List (S35)) (r : Bool) (w : World) (hr0_1 : Kd.C (Kd.int .i64) w A0_1 l0_1.length l0_1) (hc0_1 : l0_1.length ≤ c0_1) (hr0_2 : Kd.C k44 w A0_2 l0_2.length l0_2) (hc0_2 : l0_2.length ≤ c0_2) (hr1_0 : Kd.C k35 w A1_0 l1_0.length l1_0) (hc1_0 : l1_0.length ≤ c1_0) (h : laws_FnExactFits.f k a0_0 l0_1 l0_2 l1_0 = some r) :
  Calls Try.prog 10 #[.agg #[.int .i64 a0_0, .slice A0_1 l0_1.length c0_1, .slice A0_2 l0_2.length c0_2], .agg #[.slice A1_0 l1_0.length c1_0]] w fun e w' => e = .returned (.bool r) ∧ Below w.heap.size w w' := by
 have hu86 := Try.underlying86
 have hu24 := Try.underlying24
 have hu69 := Try.underlying69
 have hu28 := Try.underlying28
 have HR0_1 := Aside0.mk hr0_1
 have HC0_1 := Aside0.mk hc0_1
 clear hr0_1 hc0_1
 have HR0_2 := Aside0.mk hr0_2
 have HC0_2 := Aside0.mk hc0_2
 clear hr0_2 hc0_2
 have HR1_0 := Aside0.mk hr1_0
 have HC1_0 := Aside0.mk hc1_0
 clear hr1_0 hc1_0
 have HB := Aside0.mk (Below.refl w.heap.size w)
 have H : ((laws_szPart.f k a0_0 l0_1 l0_2 1048576).bind fun t305 => (if t305 < 0 then (some true) else ((laws_szView.f k l1_0 t305).bind fun t306 => (if t306 < 0 then (some true) else ((laws_toPart.f k a0_0 l0_1 l0_2).bind fun bt307 => ((laws_toView.f k l1_0).bind fun t314 => ((spec_Fits.f k bt307.1 bt307.2.1 bt307.2.2 t314).bind fun t317 => ((laws_toPart.f k a0_0 l0_1 l0_2).bind fun bt318 => ((laws_toView.f k l1_0).bind fun t326 => ((impl_Fits.f k bt318.1 bt318.2.1 bt318.2.2 t326).bind fun t330 => (if (t330 != t317) = true then (some false) else ((laws_toPart.f k a0_0 l0_1 l0_2).bind fun bt331 => ((laws_eqPart.f k bt318.1 bt318.2.1 bt318.2.2 bt331.1 bt331.2.1 bt331.2.2).bind fun t338 => (if t338 = true then ((laws_toView.f k l1_0).bind fun t339 => ((laws_eqView.f k t326 t339).bind fun t342 => (if t342 = true then (some true) else (some false)))) else (some false))))))))))))))) = some r := h
 clear h
 replace H := Option.bind_eq_some_iff.mp H
 obtain ⟨t305, A30, H⟩ := H
 replace H : (if t305 < 0 then (some true) else ((laws_szView.f k l1_0 t305).bind fun t306 => (if t306 < 0 then (some true) else ((laws_toPart.f k a0_0 l0_1 l0_2).bind fun bt307 => ((laws_toView.f k l1_0).bind fun t314 => ((spec_Fits.f k bt307.1 bt307.2.1 bt307.2.2 t314).bind fun t317 => ((laws_toPart.f k a0_0 l0_1 l0_2).bind fun bt318 => ((laws_toView.f k l1_0).bind fun t326 => ((impl_Fits.f k bt318.1 bt318.2.1 bt318.2.2 t326).bind fun t330 => (if (t330 != t317) = true then (some false) else ((laws_toPart.f k a0_0 l0_1 l0_2).bind fun bt331 => ((laws_eqPart.f k bt318.1 bt318.2.1 bt318.2.2 bt331.1 bt331.2.1 bt331.2.2).bind fun t338 => (if t338 = true then ((laws_toView.f k l1_0).bind fun t339 => ((laws_eqView.f k t326 t339).bind fun t342 => (if t342 = true then (some true) else (some false)))) else (some false)))))))))))))) = some r := H
 have A3 := Aside0.mk A30
 clear A30
 by_cases c4 : t305 < 0
 ·rw [if_pos c4] at H
  have c4b0 : decide (t305 < 0) = true := decide_eq_true c4
  clear c4
  obtain rfl := Option.some.inj H
  go_enter Try.func10, Try.ntmps10
  go_wp2_with (first | ((with_reducible refine gate_dst (N := 2) rfl ?_); refine box_event ?hg (N := 2) ?hd (cs := #[.int .i64 a0_0, .slice A0_1 l0_1.length c0_1, .slice A0_2 l0_2.length c0_2]) (t := 86) ?hr ?_; (case hd => rfl); (case hg => rfl); (case hr => first | (go_simp; done) | (go_simp; rfl)); intro gb303 hg w5 hbox hb; have n0_ := Aside0.mk (below_step tq_0 hb); have n1_ := Aside0.mk (hbox); have n2_ := Aside0.mk (gb_ hg tq_0); have n3_ := Aside0.mk (gb_ hg tq_0); clear HB; have HB := n0_; have BK303 := n1_; have GW303 := n2_; have GE303 := n3_; clear n0_ n1_ n2_ n3_; clear hb hbox hg) | ((with_reducible refine gate_dst (N := 3) rfl ?_); refine box_event ?hg (N := 3) ?hd (cs := #[.slice A1_0 l1_0.length c1_0]) (t := 24) ?hr ?_; (case hd => rfl); (case hg => rfl); (case hr => first | (go_simp; done) | (go_simp; rfl)); intro gb304 hg w6 hbox hb; have n0_ := Aside0.mk (blk_below tq_3 hb); have n1_ := Aside0.mk (below_step tq_21 hb); have n2_ := Aside0.mk (hbox); have n3_ := Aside0.mk (gb_ hg tq_21); have n4_ := Aside0.mk (gb_ hg tq_21); have n5_ := Aside0.mk (ltne_ hg (blk_lt tq_3)); have n6_ := Aside0.mk (gtne_ hg (blk_lt tq_3)); clear BK303 HB; have BK303 := n0_; have HB := n1_; have BK304 := n2_; have GW304 := n3_; have GE304 := n4_; have NB303_304 := n5_; have NB304_303 := n6_; clear n0_ n1_ n2_ n3_ n4_ n5_ n6_; clear hb hbox hg; have hnb7 := NB303_304.out; have hnc7 := NB304_303.out; have hcz8_0 := bc_ BK303.out 0; have hcz8_1 := bc_ BK303.out 1; have hcz8_2 := bc_ BK303.out 2; have hfz8_0 := blk_frozen BK303.out 0; have hfz8_1 := blk_frozen BK303.out 1; have hfz8_2 := blk_frozen BK303.out 2) | ((with_reducible refine gate_callee (f := 53) rfl ?_); refine goesL_ (some 12) rfl rfl Try.func53 (by kernel_rfl) rfl #[.agg #[.int .i64 a0_0, .slice A0_1 l0_1.length c0_1, .slice A0_2 l0_2.length c0_2], .int .i64 1048576] rfl tq_1 ?_; (with_reducible refine (laws_szPart.calls k a0_0 _ _ l0_1 _ _ l0_2 1048576 t305 _ ?side1 ?side2 ?side3 ?side4 A3.out).mono ?_); (case side1 => exact tq_6); (case side2 => exact HC0_1.out); (case side3 => exact tq_7); (case side4 => exact HC0_2.out); rintro e w9 ⟨rfl, hb⟩; refine ⟨_, rfl, ?_⟩; have n0_ := Aside0.mk (blk_below tq_3 hb); have n1_ := Aside0.mk (blk_below tq_5 hb); have n2_ := Aside0.mk (below_step tq_2 hb); clear BK303 BK304 HB; have BK303 := n0_; have BK304 := n1_; have HB := n2_; clear n0_ n1_ n2_; (try clear hb); (try clear hb2); (try clear hk); (try clear hi)))
  go_ret
  exact ⟨by first | rfl | (simp [errW_none, errW_some] <;> rfl) | (simp [*, errW_none, errW_some] <;> rfl), by repeat (first | (with_reducible first | exact HB.out | apply below_alloc | apply pw_below_drewN | apply below_drew1 | refine below_set ?_ GE303.out | refine below_set ?_ GE304.out) | exact HB.out)⟩
 ·rw [if_neg c4] at H
  have c4b0 : decide (t305 < 0) = false := decide_eq_false c4
  clear c4
  replace H := Option.bind_eq_some_iff.mp H
  obtain ⟨t306, A100, H⟩ := H
  replace H : (if t306 < 0 then (some true) else ((laws_toPart.f k a0_0 l0_1 l0_2).bind fun bt307 => ((laws_toView.f k l1_0).bind fun t314 => ((spec_Fits.f k bt307.1 bt307.2.1 bt307.2.2 t314).bind fun t317 => ((laws_toPart.f k a0_0 l0_1 l0_2).bind fun bt318 => ((laws_toView.f k l1_0).bind fun t326 => ((impl_Fits.f k bt318.1 bt318.2.1 bt318.2.2 t326).bind fun t330 => (if (t330 != t317) = true then (some false) else ((laws_toPart.f k a0_0 l0_1 l0_2).bind fun bt331 => ((laws_eqPart.f k bt318.1 bt318.2.1 bt318.2.2 bt331.1 bt331.2.1 bt331.2.2).bind fun t338 => (if t338 = true then ((laws_toView.f k l1_0).bind fun t339 => ((laws_eqView.f k t326 t339).bind fun t342 => (if t342 = true then (some true) else (some false)))) else (some false)))))))))))) = some r := H
  have A10 := Aside0.mk A100
  clear A100
  by_cases c11 : t306 < 0
  ·rw [if_pos c11] at H
   have c11b0 : decide (t306 < 0) = true := decide_eq_true c11
   clear c11
   obtain rfl := Option.some.inj H
   go_enter Try.func10, Try.ntmps10
   go_wp2_with (first | ((with_reducible refine gate_dst (N := 2) rfl ?_); refine box_event ?hg (N := 2) ?hd (cs := #[.int .i64 a0_0, .slice A0_1 l0_1.length c0_1, .slice A0_2 l0_2.length c0_2]) (t := 86) ?hr ?_; (case hd => rfl); (case hg => rfl); (case hr => first | (go_simp; done) | (go_simp; rfl)); intro gb303 hg w12 hbox hb; have n0_ := Aside0.mk (below_step tq_0 hb); have n1_ := Aside0.mk (hbox); have n2_ := Aside0.mk (gb_ hg tq_0); have n3_ := Aside0.mk (gb_ hg tq_0); clear HB; have HB := n0_; have BK303 := n1_; have GW303 := n2_; have GE303 := n3_; clear n0_ n1_ n2_ n3_; clear hb hbox hg) | ((with_reducible refine gate_dst (N := 3) rfl ?_); refine box_event ?hg (N := 3) ?hd (cs := #[.slice A1_0 l1_0.length c1_0]) (t := 24) ?hr ?_; (case hd => rfl); (case hg => rfl); (case hr => first | (go_simp; done) | (go_simp; rfl)); intro gb304 hg w13 hbox hb; have n0_ := Aside0.mk (blk_below tq_3 hb); have n1_ := Aside0.mk (below_step tq_21 hb); have n2_ := Aside0.mk (hbox); have n3_ := Aside0.mk (gb_ hg tq_21); have n4_ := Aside0.mk (gb_ hg tq_21); have n5_ := Aside0.mk (ltne_ hg (blk_lt tq_3)); have n6_ := Aside0.mk (gtne_ hg (blk_lt tq_3)); clear BK303 HB; have BK303 := n0_; have HB := n1_; have BK304 := n2_; have GW304 := n3_; have GE304 := n4_; have NB303_304 := n5_; have NB304_303 := n6_; clear n0_ n1_ n2_ n3_ n4_ n5_ n6_; clear hb hbox hg; have hnb14 := NB303_304.out; have hnc14 := NB304_303.out; have hcz15_0 := bc_ BK303.out 0; have hcz15_1 := bc_ BK303.out 1; have hcz15_2 := bc_ BK303.out 2; have hfz15_0 := blk_frozen BK303.out 0; have hfz15_1 := blk_frozen BK303.out 1; have hfz15_2 := blk_frozen BK303.out 2) | ((with_reducible refine gate_callee (f := 53) rfl ?_); refine goesL_ (some 12) rfl rfl Try.func53 (by kernel_rfl) rfl #[.agg #[.int .i64 a0_0, .slice A0_1 l0_1.length c0_1, .slice A0_2 l0_2.length c0_2], .int .i64 1048576] rfl tq_1 ?_; (with_reducible refine (laws_szPart.calls k a0_0 _ _ l0_1 _ _ l0_2 1048576 t305 _ ?side1 ?side2 ?side3 ?side4 A3.out).mono ?_); (case side1 => exact tq_6); (case side2 => exact HC0_1.out); (case side3 => exact tq_7); (case side4 => exact HC0_2.out); rintro e w16 ⟨rfl, hb⟩; refine ⟨_, rfl, ?_⟩; have n0_ := Aside0.mk (blk_below tq_3 hb); have n1_ := Aside0.mk (blk_below tq_5 hb); have n2_ := Aside0.mk (below_step tq_2 hb); clear BK303 BK304 HB; have BK303 := n0_; have BK304 := n1_; have HB := n2_; clear n0_ n1_ n2_; (try clear hb); (try clear hb2); (try clear hk); (try clear hi); have hcz17_0 := bc_ BK304.out 0; have hfz17_0 := blk_frozen BK304.out 0) | ((with_reducible refine gate_callee (f := 15) rfl ?_); refine goesL_ (some 17) rfl rfl Try.func15 (by kernel_rfl) rfl #[.agg #[.slice A1_0 l1_0.length c1_0], .int .i64 t305] rfl tq_1 ?_; (with_reducible refine (laws_szView.calls k _ _ l1_0 t305 t306 _ ?side1 ?side2 A10.out).mono ?_); (case side1 => exact tq_14); (case side2 => exact HC1_0.out); rintro e w18 ⟨rfl, hb⟩; refine ⟨_, rfl, ?_⟩; have n0_ := Aside0.mk (blk_below tq_3 hb); have n1_ := Aside0.mk (blk_below tq_5 hb); have n2_ := Aside0.mk (below_step tq_2 hb); clear BK303 BK304 HB; have BK303 := n0_; have BK304 := n1_; have HB := n2_; clear n0_ n1_ n2_; (try clear hb); (try clear hb2); (try clear hk); (try clear hi)))
   go_ret
   exact ⟨by first | rfl | (simp [errW_none, errW_some] <;> rfl) | (simp [*, errW_none, errW_some] <;> rfl), by repeat (first | (with_reducible first | exact HB.out | apply below_alloc | apply pw_below_drewN | apply below_drew1 | refine below_set ?_ GE303.out | refine below_set ?_ GE304.out) | exact HB.out)⟩
  ·rw [if_neg c11] at H
   have c11b0 : decide (t306 < 0) = false := decide_eq_false c11
   clear c11
   replace H := Option.bind_eq_some_iff.mp H
   obtain ⟨⟨t307, t308, t311⟩, A190, H⟩ := H
   replace H : ((laws_toView.f k l1_0).bind fun t314 => ((spec_Fits.f k t307 t308 t311 t314).bind fun t317 => ((laws_toPart.f k a0_0 l0_1 l0_2).bind fun bt318 => ((laws_toView.f k l1_0).bind fun t326 => ((impl_Fits.f k bt318.1 bt318.2.1 bt318.2.2 t326).bind fun t330 => (if (t330 != t317) = true then (some false) else ((laws_toPart.f k a0_0 l0_1 l0_2).bind fun bt331 => ((laws_eqPart.f k bt318.1 bt318.2.1 bt318.2.2 bt331.1 bt331.2.1 bt331.2.2).bind fun t338 => (if t338 = true then ((laws_toView.f k l1_0).bind fun t339 => ((laws_eqView.f k t326 t339).bind fun t342 => (if t342 = true then (some true) else (some false)))) else (some false)))))))))) = some r := H
   have A19 := Aside0.mk A190
   clear A190
   replace H := Option.bind_eq_some_iff.mp H
   obtain ⟨t314, A200, H⟩ := H
   replace H : ((spec_Fits.f k t307 t308 t311 t314).bind fun t317 => ((laws_toPart.f k a0_0 l0_1 l0_2).bind fun bt318 => ((laws_toView.f k l1_0).bind fun t326 => ((impl_Fits.f k bt318.1 bt318.2.1 bt318.2.2 t326).bind fun t330 => (if (t330 != t317) = true then (some false) else ((laws_toPart.f k a0_0 l0_1 l0_2).bind fun bt331 => ((laws_eqPart.f k bt318.1 bt318.2.1 bt318.2.2 bt331.1 bt331.2.1 bt331.2.2).bind fun t338 => (if t338 = true then ((laws_toView.f k l1_0).bind fun t339 => ((laws_eqView.f k t326 t339).bind fun t342 => (if t342 = true then (some true) else (some false)))) else (some false))))))))) = some r := H
   have A20 := Aside0.mk A200
   clear A200
   replace H := Option.bind_eq_some_iff.mp H
   obtain ⟨t317, A210, H⟩ := H
   replace H : ((laws_toPart.f k a0_0 l0_1 l0_2).bind fun bt318 => ((laws_toView.f k l1_0).bind fun t326 => ((impl_Fits.f k bt318.1 bt318.2.1 bt318.2.2 t326).bind fun t330 => (if (t330 != t317) = true then (some false) else ((laws_toPart.f k a0_0 l0_1 l0_2).bind fun bt331 => ((laws_eqPart.f k bt318.1 bt318.2.1 bt318.2.2 bt331.1 bt331.2.1 bt331.2.2).bind fun t338 => (if t338 = true then ((laws_toView.f k l1_0).bind fun t339 => ((laws_eqView.f k t326 t339).bind fun t342 => (if t342 = true then (some true) else (some false)))) else (some false)))))))) = some r := H
   have A21 := Aside0.mk A210
   clear A210
   replace H := Option.bind_eq_some_iff.mp H
   obtain ⟨⟨t318, t319, t322⟩, A220, H⟩ := H
   replace H : ((laws_toView.f k l1_0).bind fun t326 => ((impl_Fits.f k t318 t319 t322 t326).bind fun t330 => (if (t330 != t317) = true then (some false) else ((laws_toPart.f k a0_0 l0_1 l0_2).bind fun bt331 => ((laws_eqPart.f k t318 t319 t322 bt331.1 bt331.2.1 bt331.2.2).bind fun t338 => (if t338 = true then ((laws_toView.f k l1_0).bind fun t339 => ((laws_eqView.f k t326 t339).bind fun t342 => (if t342 = true then (some true) else (some false)))) else (some false))))))) = some r := H
   have A22 := Aside0.mk A220
   clear A220
   replace H := Option.bind_eq_some_iff.mp H
   obtain ⟨t326, A230, H⟩ := H
   replace H : ((impl_Fits.f k t318 t319 t322 t326).bind fun t330 => (if (t330 != t317) = true then (some false) else ((laws_toPart.f k a0_0 l0_1 l0_2).bind fun bt331 => ((laws_eqPart.f k t318 t319 t322 bt331.1 bt331.2.1 bt331.2.2).bind fun t338 => (if t338 = true then ((laws_toView.f k l1_0).bind fun t339 => ((laws_eqView.f k t326 t339).bind fun t342 => (if t342 = true then (some true) else (some false)))) else (some false)))))) = some r := H
   have A23 := Aside0.mk A230
   clear A230
   replace H := Option.bind_eq_some_iff.mp H
   obtain ⟨t330, A240, H⟩ := H
   replace H : (if (t330 != t317) = true then (some false) else ((laws_toPart.f k a0_0 l0_1 l0_2).bind fun bt331 => ((laws_eqPart.f k t318 t319 t322 bt331.1 bt331.2.1 bt331.2.2).bind fun t338 => (if t338 = true then ((laws_toView.f k l1_0).bind fun t339 => ((laws_eqView.f k t326 t339).bind fun t342 => (if t342 = true then (some true) else (some false)))) else (some false))))) = some r := H
   have A24 := Aside0.mk A240
   clear A240
   by_cases c25 : (t330 != t317) = true
   ·rw [if_pos c25] at H
    have c25b0 : (t330 != t317) = true := c25
    (try (have c25b1 : decide (t330 = t317) = false := by simpa using c25))
    (try (have c25b2 : (t330 == t317) = false := by simpa using c25))
    (try (have c25b3 : ¬ (t330 = t317) := by simpa using c25))
    clear c25
    obtain rfl := Option.some.inj H
    go_enter Try.func10, Try.ntmps10
    try go_wp2_with (first | ((with_reducible refine gate_dst (N := 2) rfl ?_); refine box_event ?hg (N := 2) ?hd (cs := #[.int .i64 a0_0, .slice A0_1 l0_1.length c0_1, .slice A0_2 l0_2.length c0_2]) (t := 86) ?hr ?_; (case hd => rfl); (case hg => rfl); (case hr => first | (go_simp; done) | (go_simp; rfl)); intro gb303 hg w26 hbox hb; have n0_ := Aside0.mk (below_step tq_0 hb); have n1_ := Aside0.mk (hbox); have n2_ := Aside0.mk (gb_ hg tq_0); have n3_ := Aside0.mk (gb_ hg tq_0); clear HB; have HB := n0_; have BK303 := n1_; have GW303 := n2_; have GE303 := n3_; clear n0_ n1_ n2_ n3_; clear hb hbox hg) | ((with_reducible refine gate_dst (N := 3) rfl ?_); refine box_event ?hg (N := 3) ?hd (cs := #[.slice A1_0 l1_0.length c1_0]) (t := 24) ?hr ?_; (case hd => rfl); (case hg => rfl); (case hr => first | (go_simp; done) | (go_simp; rfl)); intro gb304 hg w27 hbox hb; have n0_ := Aside0.mk (blk_below tq_3 hb); have n1_ := Aside0.mk (below_step tq_21 hb); have n2_ := Aside0.mk (hbox); have n3_ := Aside0.mk (gb_ hg tq_21); have n4_ := Aside0.mk (gb_ hg tq_21); have n5_ := Aside0.mk (ltne_ hg (blk_lt tq_3)); have n6_ := Aside0.mk (gtne_ hg (blk_lt tq_3)); clear BK303 HB; have BK303 := n0_; have HB := n1_; have BK304 := n2_; have GW304 := n3_; have GE304 := n4_; have NB303_304 := n5_; have NB304_303 := n6_; clear n0_ n1_ n2_ n3_ n4_ n5_ n6_; clear hb hbox hg; have hnb28 := NB303_304.out; have hnc28 := NB304_303.out; have hcz29_0 := bc_ BK303.out 0; have hcz29_1 := bc_ BK303.out 1; have hcz29_2 := bc_ BK303.out 2; have hfz29_0 := blk_frozen BK303.out 0; have hfz29_1 := blk_frozen BK303.out 1; have hfz29_2 := blk_frozen BK303.out 2) | ((with_reducible refine gate_callee (f := 53) rfl ?_); refine goesL_ (some 12) rfl rfl Try.func53 (by kernel_rfl) rfl #[.agg #[.int .i64 a0_0, .slice A0_1 l0_1.length c0_1, .slice A0_2 l0_2.length c0_2], .int .i64 1048576] rfl tq_1 ?_; (with_reducible refine (laws_szPart.calls k a0_0 _ _ l0_1 _ _ l0_2 1048576 t305 _ ?side1 ?side2 ?side3 ?side4 A3.out).mono ?_); (case side1 => exact tq_6); (case side2 => exact HC0_1.out); (case side3 => exact tq_7); (case side4 => exact HC0_2.out); rintro e w30 ⟨rfl, hb⟩; refine ⟨_, rfl, ?_⟩; have n0_ := Aside0.mk (blk_below tq_3 hb); have n1_ := Aside0.mk (blk_below tq_5 hb); have n2_ := Aside0.mk (below_step tq_2 hb); clear BK303 BK304 HB; have BK303 := n0_; have BK304 := n1_; have HB := n2_; clear n0_ n1_ n2_; (try clear hb); (try clear hb2); (try clear hk); (try clear hi); have hcz31_0 := bc_ BK304.out 0; have hfz31_0 := blk_frozen BK304.out 0) | ((with_reducible refine gate_callee (f := 15) rfl ?_); refine goesL_ (some 17) rfl rfl Try.func15 (by kernel_rfl) rfl #[.agg #[.slice A1_0 l1_0.length c1_0], .int .i64 t305] rfl tq_1 ?_; (with_reducible refine (laws_szView.calls k _ _ l1_0 t305 t306 _ ?side1 ?side2 A10.out).mono ?_); (case side1 => exact tq_14); (case side2 => exact HC1_0.out); rintro e w32 ⟨rfl, hb⟩; refine ⟨_, rfl, ?_⟩; have n0_ := Aside0.mk (blk_below tq_3 hb); have n1_ := Aside0.mk (blk_below tq_5 hb); have n2_ := Aside0.mk (below_step tq_2 hb); clear BK303 BK304 HB; have BK303 := n0_; have BK304 := n1_; have HB := n2_; clear n0_ n1_ n2_; (try clear hb); (try clear hb2); (try clear hk); (try clear hi)))
    have n0_ := Aside0.mk (blk_drew BK303.out)
    have n1_ := Aside0.mk (blk_drew BK304.out)
    have n2_ := Aside0.mk (below_drew1 HB.out)
    clear BK303 BK304 HB
    have BK303 := n0_
    have BK304 := n1_
    have HB := n2_
    clear n0_ n1_ n2_
    refine start_ (n := 6) (S := fun w' => w'.cell? ⟨gb303, 0, none⟩ = some (.int .i64 a0_0) ∧ w'.cell? ⟨gb303, 1, none⟩ = some (.slice A0_1 l0_1.length c0_1) ∧ w'.cell? ⟨gb303, 2, none⟩ = some (.slice A0_2 l0_2.length c0_2) ∧ w'.cell? ⟨gb304, 0, none⟩ = some (.slice A1_0 l1_0.length c1_0)) (ds := []) bq_0 (by kernel_rfl) rfl rfl ⟨(blk_cell BK303.out 0).trans rfl, (blk_cell BK303.out 1).trans rfl, (blk_cell BK303.out 2).trans rfl, (blk_cell BK304.out 0).trans rfl⟩ (fun hHeld => ?_)
    generalize w32.drew = w33 at BK303 BK304 HB hHeld ⊢
    refine take_ (i := 0) (N := some 20) (v := ?_) (a' := ?_) bq_62 rfl rfl (by kernel_rfl) (fun _ _ _ h => h) (Or.inl ⟨by rfl, ?_⟩) hHeld ?_ ?_
    rotate_left
    ·rintro w' ⟨s0, s1, s2, s3⟩
     go_simp
     with_reducible rfl
    rotate_left
    ·simp only [Act.put, List.setIfInBounds_toArray, List.set_cons_zero, List.set_cons_succ, i64_w, i32_w]
     rfl
    refine take_ (i := 2) (N := some 22) (v := ?_) (a' := ?_) bq_1 rfl rfl (by kernel_rfl) (fun _ _ _ h => h) (Or.inl ⟨by rfl, ?_⟩) hHeld ?_ ?_
    rotate_left
    ·rintro w' ⟨s0, s1, s2, s3⟩
     go_simp
     with_reducible rfl
    rotate_left
    ·simp only [Act.put, List.setIfInBounds_toArray, List.set_cons_zero, List.set_cons_succ, i64_w, i32_w]
     rfl
    refine one_ (i := 1) (N := some 21) bq_2 rfl rfl (by kernel_rfl) (by decide) (fun K hK => ?_)
    refine goes_ Try.func55 (by kernel_rfl) rfl #[.agg #[.int .i64 a0_0, .slice A0_1 l0_1.length c0_1, .slice A0_2 l0_2.length c0_2]] (by rfl) rfl rfl tq_1 ?_
    with_reducible refine (laws_toPart.calls k a0_0 _ _ l0_1 _ _ l0_2 t307 t308 t311 _ ?side1 ?side2 ?side3 ?side4 A19.out).mono ?_
    (case side1 => exact tq_6)
    (case side2 => exact HC0_1.out)
    (case side3 => exact tq_7)
    (case side4 => exact HC0_2.out)
    rintro e w34 ⟨v309, v312, rfl, ho0, ho1, hb⟩
    refine ⟨_, rfl, ?_⟩
    have n0_ := Aside0.mk (Kd.R_lower ho0 (below_size tq_2))
    have n1_ := Aside0.mk (Kd.S_lower ho1 (below_size tq_2))
    have n2_ := Aside0.mk (blk_below tq_3 hb)
    have n3_ := Aside0.mk (blk_below tq_5 hb)
    have n4_ := Aside0.mk (below_step tq_2 hb)
    clear BK303 BK304 HB
    have HO310 := n0_
    have HO313 := n1_
    have BK303 := n2_
    have BK304 := n3_
    have HB := n4_
    clear n0_ n1_ n2_ n3_ n4_
    (try clear hb)
    (try clear hb2)
    (try clear hk)
    (try clear hi)
    (try clear ho0)
    (try clear ho1)
    refine hK.out _ _ ⟨(blk_cell BK303.out 0).trans rfl, (blk_cell BK303.out 1).trans rfl, (blk_cell BK303.out 2).trans rfl, (blk_cell BK304.out 0).trans rfl⟩ (fun hHeld => ?_)
    clear hK K
    refine norm_ (a' := ?_) ?_ ?_
    rotate_left
    ·show Act.put _ (some 21) _ = _
     simp only [Act.put, List.setIfInBounds_toArray, List.set_cons_zero, List.set_cons_succ, i64_w, i32_w]
     rfl
    refine one_ (i := 3) (N := some 23) bq_3 rfl rfl (by kernel_rfl) (by decide) (fun K hK => ?_)
    refine goes_ Try.func17 (by kernel_rfl) rfl #[.agg #[.slice A1_0 l1_0.length c1_0]] (by rfl) rfl rfl tq_1 ?_
    with_reducible refine (laws_toView.calls k _ _ l1_0 t314 _ ?side1 ?side2 A20.out).mono ?_
    (case side1 => exact tq_14)
    (case side2 => exact HC1_0.out)
    rintro e w35 ⟨v315, rfl, ho0, hb⟩
    refine ⟨_, rfl, ?_⟩
    have n0_ := Aside0.mk (Kd.R_below tq_13 hb)
    have n1_ := Aside0.mk (Kd.S_below tq_12 hb)
    have n2_ := Aside0.mk (Kd.R_lower ho0 (below_size tq_2))
    have n3_ := Aside0.mk (blk_below tq_3 hb)
    have n4_ := Aside0.mk (blk_below tq_5 hb)
    have n5_ := Aside0.mk (below_step tq_2 hb)
    clear HO310 HO313 BK303 BK304 HB
    have HO310 := n0_
    have HO313 := n1_
    have HO316 := n2_
    have BK303 := n3_
    have BK304 := n4_
    have HB := n5_
    clear n0_ n1_ n2_ n3_ n4_ n5_
    (try clear hb)
    (try clear hb2)
    (try clear hk)
    (try clear hi)
    (try clear ho0)
    obtain ⟨Ao36, co36, eo36⟩ := Kd.R_slice HO310.out
    (first | subst eo36 | (injection eo36 with f1_ f2_ f3_; have f4_ := f1_.symm; have f5_ := f3_.symm; clear f1_ f2_ f3_; subst f4_; subst f5_))
    obtain ⟨Ao37, co37, eo37⟩ := Kd.S_slice HO313.out
    (first | subst eo37 | (injection eo37 with f1_ f2_ f3_; have f4_ := f1_.symm; have f5_ := f3_.symm; clear f1_ f2_ f3_; subst f4_; subst f5_))
    obtain ⟨Ao38, co38, eo38⟩ := Kd.R_slice HO316.out
    (first | subst eo38 | (injection eo38 with f1_ f2_ f3_; have f4_ := f1_.symm; have f5_ := f3_.symm; clear f1_ f2_ f3_; subst f4_; subst f5_))
    refine hK.out _ _ ⟨(blk_cell BK303.out 0).trans rfl, (blk_cell BK303.out 1).trans rfl, (blk_cell BK303.out 2).trans rfl, (blk_cell BK304.out 0).trans rfl⟩ (fun hHeld => ?_)
    clear hK K
    refine norm_ (a' := ?_) ?_ ?_
    rotate_left
    ·show Act.put _ (some 23) _ = _
     simp only [Act.put, List.setIfInBounds_toArray, List.set_cons_zero, List.set_cons_succ, i64_w, i32_w]
     rfl
    refine one_ (i := 4) (N := some 24) bq_4 rfl rfl (by kernel_rfl) (by decide) (fun K hK => ?_)
    refine goes_ Try.func54 (by kernel_rfl) rfl #[.agg #[.int .i64 t307, .slice Ao36 t308.length co36, .slice Ao37 t311.length co37], .agg #[.slice Ao38 t314.length co38]] (by rfl) rfl rfl tq_1 ?_
    with_reducible refine (spec_Fits.calls k t307 _ _ t308 _ _ t311 _ _ t314 t317 _ ?side1 ?side2 ?side3 ?side4 ?side5 ?side6 A21.out).mono ?_
    (case side1 => exact tq_76)
    (case side2 => exact (Kd.R_reads' HO310.out).2.1)
    (case side3 => exact tq_74)
    (case side4 => exact (Kd.S_reads' HO313.out).2.1)
    (case side5 => exact tq_75)
    (case side6 => exact (Kd.R_reads' HO316.out).2.1)
    rintro e w39 ⟨rfl, hb⟩
    refine ⟨_, rfl, ?_⟩
    have n0_ := Aside0.mk (Kd.R_below tq_13 hb)
    have n1_ := Aside0.mk (Kd.S_below tq_12 hb)
    have n2_ := Aside0.mk (Kd.R_below tq_23 hb)
    have n3_ := Aside0.mk (blk_below tq_3 hb)
    have n4_ := Aside0.mk (blk_below tq_5 hb)
    have n5_ := Aside0.mk (below_step tq_2 hb)
    clear HO310 HO313 HO316 BK303 BK304 HB
    have HO310 := n0_
    have HO313 := n1_
    have HO316 := n2_
    have BK303 := n3_
    have BK304 := n4_
    have HB := n5_
    clear n0_ n1_ n2_ n3_ n4_ n5_
    (try clear hb)
    (try clear hb2)
    (try clear hk)
    (try clear hi)
    refine hK.out _ _ ⟨(blk_cell BK303.out 0).trans rfl, (blk_cell BK303.out 1).trans rfl, (blk_cell BK303.out 2).trans rfl, (blk_cell BK304.out 0).trans rfl⟩ (fun hHeld => ?_)
    clear hK K
    refine norm_ (a' := ?_) ?_ ?_
    rotate_left
    ·show Act.put _ (some 24) _ = _
     simp only [Act.put, List.setIfInBounds_toArray, List.set_cons_zero, List.set_cons_succ, i64_w, i32_w]
     rfl
    refine yq_ (i := 5) (N := some 6) bq_5 (by kernel_rfl) ?_
    refine done_ (by kernel_rfl) ?_
    have hcz40_0 := bc_ BK303.out 0
    have hcz40_1 := bc_ BK303.out 1
    have hcz40_2 := bc_ BK303.out 2
    have hfz40_0 := blk_frozen BK303.out 0
    have hfz40_1 := blk_frozen BK303.out 1
    have hfz40_2 := blk_frozen BK303.out 2
    try go_wp2_with (first | ((with_reducible refine gate_callee (f := 55) rfl ?_); refine goesL_ (some 26) rfl rfl Try.func55 (by kernel_rfl) rfl #[.agg #[.int .i64 a0_0, .slice A0_1 l0_1.length c0_1, .slice A0_2 l0_2.length c0_2]] rfl tq_1 ?_; (with_reducible refine (laws_toPart.calls k a0_0 _ _ l0_1 _ _ l0_2 t318 t319 t322 _ ?side1 ?side2 ?side3 ?side4 A22.out).mono ?_); (case side1 => exact tq_6); (case side2 => exact HC0_1.out); (case side3 => exact tq_7); (case side4 => exact HC0_2.out); rintro e w41 ⟨v320, v323, rfl, ho0, ho1, hb⟩; refine ⟨_, rfl, ?_⟩; have n0_ := Aside0.mk (Kd.R_elder' tq_13 (Kd.R_base ho0) hb); have n1_ := Aside0.mk (Kd.S_elder' tq_12 (Kd.S_base ho1) hb); have n2_ := Aside0.mk (Kd.R_below tq_23 hb); have n3_ := Aside0.mk (Kd.R_lower (Kd.R_new' ho0 (Kd.R_lt tq_13)) (below_size tq_2)); have n4_ := Aside0.mk (Kd.S_lower (Kd.S_new' ho1 (Kd.S_lt tq_12)) (below_size tq_2)); have n5_ := Aside0.mk (blk_below tq_3 hb); have n6_ := Aside0.mk (blk_below tq_5 hb); have n7_ := Aside0.mk (below_step tq_2 hb); clear HO310 HO313 HO316 BK303 BK304 HB; have HO310 := n0_; have HO313 := n1_; have HO316 := n2_; have HO321 := n3_; have HO324 := n4_; have BK303 := n5_; have BK304 := n6_; have HB := n7_; clear n0_ n1_ n2_ n3_ n4_ n5_ n6_ n7_; (try clear hb); (try clear hb2); (try clear hk); (try clear hi); (try clear ho0); (try clear ho1)) | ((with_reducible refine gate_dst (N := 7) rfl ?_); refine box_event ?hg (N := 7) ?hd (cs := #[.int .i64 0, .slice none 0 0, .slice none 0 0]) (t := 69) ?hr ?_; (case hd => rfl); (case hg => rfl); (case hr => first | (go_simp; done) | (go_simp; rfl)); intro gb325 hg w42 hbox hb; have n0_ := Aside0.mk (Kd.R_below tq_13 hb); have n1_ := Aside0.mk (Kd.S_below tq_12 hb); have n2_ := Aside0.mk (Kd.R_below tq_23 hb); have n3_ := Aside0.mk (Kd.R_below tq_26 hb); have n4_ := Aside0.mk (Kd.S_below tq_25 hb); have n5_ := Aside0.mk (blk_below tq_3 hb); have n6_ := Aside0.mk (blk_below tq_5 hb); have n7_ := Aside0.mk (below_step tq_2 hb); have n8_ := Aside0.mk (hbox); have n9_ := Aside0.mk (gb_ hg tq_2); have n10_ := Aside0.mk (gb_ hg tq_2); have n11_ := Aside0.mk (ltne_ hg (blk_lt tq_3)); have n12_ := Aside0.mk (gtne_ hg (blk_lt tq_3)); have n13_ := Aside0.mk (ltne_ hg (blk_lt tq_5)); have n14_ := Aside0.mk (gtne_ hg (blk_lt tq_5)); clear HO310 HO313 HO316 HO321 HO324 BK303 BK304 HB; have HO310 := n0_; have HO313 := n1_; have HO316 := n2_; have HO321 := n3_; have HO324 := n4_; have BK303 := n5_; have BK304 := n6_; have HB := n7_; have BK325 := n8_; have GW325 := n9_; have GE325 := n10_; have NB303_325 := n11_; have NB325_303 := n12_; have NB304_325 := n13_; have NB325_304 := n14_; clear n0_ n1_ n2_ n3_ n4_ n5_ n6_ n7_ n8_ n9_ n10_ n11_ n12_ n13_ n14_; clear hb hbox hg; have hnb43 := NB325_303.out; have hnc43 := NB303_325.out; have hnb44 := NB325_304.out; have hnc44 := NB304_325.out; have hcz45_0 := bc_ BK325.out 0; have hcz45_1 := bc_ BK325.out 1; have hcz45_2 := bc_ BK325.out 2; have hfz45_0 := blk_frozen BK325.out 0; have hfz45_1 := blk_frozen BK325.out 1; have hfz45_2 := blk_frozen BK325.out 2; obtain ⟨Ao46, co46, eo46⟩ := Kd.R_slice HO321.out; subst eo46; obtain ⟨Ao47, co47, eo47⟩ := Kd.S_slice HO324.out; subst eo47; have hcz48_0 := bc_ BK304.out 0; have hfz48_0 := blk_frozen BK304.out 0) | ((with_reducible refine gate_callee (f := 17) rfl ?_); refine goesL_ (some 28) rfl rfl Try.func17 (by kernel_rfl) rfl #[.agg #[.slice A1_0 l1_0.length c1_0]] rfl tq_1 ?_; (with_reducible refine (laws_toView.calls k _ _ l1_0 t326 _ ?side1 ?side2 A23.out).mono ?_); (case side1 => exact Kd.C_below HR1_0.out tq_9); (case side2 => exact HC1_0.out); rintro e w49 ⟨v327, rfl, ho0, hb⟩; refine ⟨_, rfl, ?_⟩; have n0_ := Aside0.mk (Kd.R_below (by (with_reducible repeat (first | apply Kd.R_alloc | apply Kd.R_drewN | apply Kd.R_drew)); exact (Kd.R_mono (Kd.R_far (p := ⟨gb325, 2, none⟩) (Kd.R_far (p := ⟨gb325, 1, none⟩) (Kd.R_far (p := ⟨gb325, 0, none⟩) (Kd.R_types HO310.out BK325.out (by decide)) (fun _ hk => hk.2) (.int .i64 t318)) (fun _ hk => hk.2) (.slice Ao46 t319.length co46)) (fun _ hk => hk.2) (.slice Ao47 t322.length co47)) (fun _ h_ => h_.1))) hb); have n1_ := Aside0.mk (Kd.S_below (by (with_reducible repeat (first | apply Kd.S_alloc | apply Kd.S_drewN | apply Kd.S_drew)); exact (Kd.S_mono (Kd.S_far (p := ⟨gb325, 2, none⟩) (Kd.S_far (p := ⟨gb325, 1, none⟩) (Kd.S_far (p := ⟨gb325, 0, none⟩) (Kd.S_types HO313.out BK325.out (by decide)) (fun _ hk => hk.2) (.int .i64 t318)) (fun _ hk => hk.2) (.slice Ao46 t319.length co46)) (fun _ hk => hk.2) (.slice Ao47 t322.length co47)) (fun _ h_ => h_.1))) hb); have n2_ := Aside0.mk (Kd.R_elder' tq_83 (Kd.R_base ho0) hb); have n3_ := Aside0.mk (Kd.R_below (by (with_reducible repeat (first | apply Kd.R_alloc | apply Kd.R_drewN | apply Kd.R_drew)); exact (Kd.R_mono (Kd.R_far (p := ⟨gb325, 2, none⟩) (Kd.R_far (p := ⟨gb325, 1, none⟩) (Kd.R_far (p := ⟨gb325, 0, none⟩) (Kd.R_types HO321.out BK325.out (by decide)) (fun _ hk => hk.2) (.int .i64 t318)) (fun _ hk => hk.2) (.slice Ao46 t319.length co46)) (fun _ hk => hk.2) (.slice Ao47 t322.length co47)) (fun _ h_ => h_.1))) hb); have n4_ := Aside0.mk (Kd.S_below (by (with_reducible repeat (first | apply Kd.S_alloc | apply Kd.S_drewN | apply Kd.S_drew)); exact (Kd.S_mono (Kd.S_far (p := ⟨gb325, 2, none⟩) (Kd.S_far (p := ⟨gb325, 1, none⟩) (Kd.S_far (p := ⟨gb325, 0, none⟩) (Kd.S_types HO324.out BK325.out (by decide)) (fun _ hk => hk.2) (.int .i64 t318)) (fun _ hk => hk.2) (.slice Ao46 t319.length co46)) (fun _ hk => hk.2) (.slice Ao47 t322.length co47)) (fun _ h_ => h_.1))) hb); have n5_ := Aside0.mk (Kd.R_lower (Kd.R_new' ho0 (Kd.R_lt tq_83)) (below_size tq_9)); have n6_ := Aside0.mk (blk_below (g := gb303) (o := .cells #[.int .i64 a0_0, .slice A0_1 l0_1.length c0_1, .slice A0_2 l0_2.length c0_2] 86 (0, 0)) tq_35 hb); have n7_ := Aside0.mk (blk_below (g := gb304) (o := .cells #[.slice A1_0 l1_0.length c1_0] 24 (0, 0)) tq_34 hb); have n8_ := Aside0.mk (blk_below (g := gb325) (o := .cells #[.int .i64 t318, .slice Ao46 t319.length co46, .slice Ao47 t322.length co47] 69 (0, 0)) (by (with_reducible repeat (first | refine blk_drewN ?_ _ | refine blk_drew ?_ | refine blk_alloc ?_ _)); refine blk_put (cs := #[.int .i64 t318, .slice Ao46 t319.length co46, .slice none 0 0]) ?_ 2 _ rfl; (with_reducible repeat (first | refine blk_drewN ?_ _ | refine blk_drew ?_ | refine blk_alloc ?_ _)); refine blk_put (cs := #[.int .i64 t318, .slice none 0 0, .slice none 0 0]) ?_ 1 _ rfl; (with_reducible repeat (first | refine blk_drewN ?_ _ | refine blk_drew ?_ | refine blk_alloc ?_ _)); refine blk_put (cs := #[.int .i64 0, .slice none 0 0, .slice none 0 0]) ?_ 0 _ rfl; (with_reducible repeat (first | refine blk_drewN ?_ _ | refine blk_drew ?_ | refine blk_alloc ?_ _)); exact BK325.out) hb); have n9_ := Aside0.mk (below_step tq_9 hb); clear HO310 HO313 HO316 HO321 HO324 BK303 BK304 BK325 HB; have HO310 := n0_; have HO313 := n1_; have HO316 := n2_; have HO321 := n3_; have HO324 := n4_; have HO328 := n5_; have BK303 := n6_; have BK304 := n7_; have BK325 := n8_; have HB := n9_; clear n0_ n1_ n2_ n3_ n4_ n5_ n6_ n7_ n8_ n9_; (try clear hb); (try clear hb2); (try clear hk); (try clear hi); (try clear ho0)) | ((with_reducible refine gate_dst (N := 8) rfl ?_); refine box_event ?hg (N := 8) ?hd (cs := #[.slice none 0 0]) (t := 28) ?hr ?_; (case hd => rfl); (case hg => rfl); (case hr => first | (go_simp; done) | (go_simp; rfl)); intro gb329 hg w50 hbox hb; have n0_ := Aside0.mk (Kd.R_below tq_13 hb); have n1_ := Aside0.mk (Kd.S_below tq_12 hb); have n2_ := Aside0.mk (Kd.R_below tq_23 hb); have n3_ := Aside0.mk (Kd.R_below tq_26 hb); have n4_ := Aside0.mk (Kd.S_below tq_25 hb); have n5_ := Aside0.mk (Kd.R_below tq_36 hb); have n6_ := Aside0.mk (blk_below tq_3 hb); have n7_ := Aside0.mk (blk_below tq_5 hb); have n8_ := Aside0.mk (blk_below tq_24 hb); have n9_ := Aside0.mk (below_step tq_9 hb); have n10_ := Aside0.mk (hbox); have n11_ := Aside0.mk (gb_ hg tq_9); have n12_ := Aside0.mk (gb_ hg tq_9); have n13_ := Aside0.mk (ltne_ hg (blk_lt tq_3)); have n14_ := Aside0.mk (gtne_ hg (blk_lt tq_3)); have n15_ := Aside0.mk (ltne_ hg (blk_lt tq_5)); have n16_ := Aside0.mk (gtne_ hg (blk_lt tq_5)); have n17_ := Aside0.mk (ltne_ hg (blk_lt tq_24)); have n18_ := Aside0.mk (gtne_ hg (blk_lt tq_24)); clear HO310 HO313 HO316 HO321 HO324 HO328 BK303 BK304 BK325 HB; have HO310 := n0_; have HO313 := n1_; have HO316 := n2_; have HO321 := n3_; have HO324 := n4_; have HO328 := n5_; have BK303 := n6_; have BK304 := n7_; have BK325 := n8_; have HB := n9_; have BK329 := n10_; have GW329 := n11_; have GE329 := n12_; have NB303_329 := n13_; have NB329_303 := n14_; have NB304_329 := n15_; have NB329_304 := n16_; have NB325_329 := n17_; have NB329_325 := n18_; clear n0_ n1_ n2_ n3_ n4_ n5_ n6_ n7_ n8_ n9_ n10_ n11_ n12_ n13_ n14_ n15_ n16_ n17_ n18_; clear hb hbox hg; obtain ⟨Ao51, co51, eo51⟩ := Kd.R_slice HO328.out; subst eo51; have hnb52 := NB329_303.out; have hnc52 := NB303_329.out; have hnb53 := NB329_304.out; have hnc53 := NB304_329.out; have hnb54 := NB329_325.out; have hnc54 := NB325_329.out; have hcz55_0 := bc_ BK329.out 0; have hfz55_0 := blk_frozen BK329.out 0; have hcz56_0 := bc_ BK325.out 0; have hcz56_1 := bc_ BK325.out 1; have hcz56_2 := bc_ BK325.out 2; have hfz56_0 := blk_frozen BK325.out 0; have hfz56_1 := blk_frozen BK325.out 1; have hfz56_2 := blk_frozen BK325.out 2) | ((with_reducible refine gate_callee (f := 56) rfl ?_); refine goesL_ (some 31) rfl rfl Try.func56 (by kernel_rfl) rfl #[.agg #[.int .i64 t318, .slice Ao46 t319.length co46, .slice Ao47 t322.length co47], .agg #[.slice Ao51 t326.length co51]] rfl tq_1 ?_; (with_reducible refine (impl_Fits.calls k t318 _ _ t319 _ _ t322 _ _ t326 t330 _ ?side1 ?side2 ?side3 ?side4 ?side5 ?side6 A24.out).mono ?_); (case side1 => refine (Kd.R_reads' (e := 3) (base := w.heap.size) (ok := fun k_ => (True ∧ some k_ ≠ (.slice Ao36 t308.length co36 : Value).ownBlock)) (n := t319.length) (c := co46) ?_).2.2; exact tq_122); (case side2 => exact (Kd.R_reads' HO321.out).2.1); (case side3 => refine (Kd.S_reads' (e := 49) (base := w.heap.size) (ok := fun k_ => (True ∧ some k_ ≠ (.slice Ao37 t311.length co37 : Value).ownBlock)) (n := t322.length) (c := co47) ?_).2.2; exact tq_118); (case side4 => exact (Kd.S_reads' HO324.out).2.1); (case side5 => refine (Kd.R_reads' (e := 38) (base := w.heap.size) (ok := fun k_ => (True ∧ some k_ ≠ (.slice Ao38 t314.length co38 : Value).ownBlock)) (n := t326.length) (c := co51) ?_).2.2; exact tq_120); (case side6 => exact (Kd.R_reads' HO328.out).2.1); rintro e w57 ⟨rfl, hb⟩; refine ⟨_, rfl, ?_⟩; have n0_ := Aside0.mk (Kd.R_below (by (with_reducible repeat (first | apply Kd.R_alloc | apply Kd.R_drewN | apply Kd.R_drew)); exact (Kd.R_mono (Kd.R_far (p := ⟨gb329, 0, none⟩) (Kd.R_types HO310.out BK329.out (by decide)) (fun _ hk => hk.2) (.slice Ao51 t326.length co51)) (fun _ h_ => h_.1))) hb); have n1_ := Aside0.mk (Kd.S_below (by (with_reducible repeat (first | apply Kd.S_alloc | apply Kd.S_drewN | apply Kd.S_drew)); exact (Kd.S_mono (Kd.S_far (p := ⟨gb329, 0, none⟩) (Kd.S_types HO313.out BK329.out (by decide)) (fun _ hk => hk.2) (.slice Ao51 t326.length co51)) (fun _ h_ => h_.1))) hb); have n2_ := Aside0.mk (Kd.R_below (by (with_reducible repeat (first | apply Kd.R_alloc | apply Kd.R_drewN | apply Kd.R_drew)); exact (Kd.R_mono (Kd.R_far (p := ⟨gb329, 0, none⟩) (Kd.R_types HO316.out BK329.out (by decide)) (fun _ hk => hk.2) (.slice Ao51 t326.length co51)) (fun _ h_ => h_.1))) hb); have n3_ := Aside0.mk (Kd.R_below tq_122 hb); have n4_ := Aside0.mk (Kd.S_below tq_118 hb); have n5_ := Aside0.mk (Kd.R_below tq_120 hb); have n6_ := Aside0.mk (blk_below (g := gb303) (o := .cells #[.int .i64 a0_0, .slice A0_1 l0_1.length c0_1, .slice A0_2 l0_2.length c0_2] 86 (0, 0)) tq_60 hb); have n7_ := Aside0.mk (blk_below (g := gb304) (o := .cells #[.slice A1_0 l1_0.length c1_0] 24 (0, 0)) tq_59 hb); have n8_ := Aside0.mk (blk_below (g := gb325) (o := .cells #[.int .i64 t318, .slice Ao46 t319.length co46, .slice Ao47 t322.length co47] 69 (0, 0)) tq_58 hb); have n9_ := Aside0.mk (blk_below (g := gb329) (o := .cells #[.slice Ao51 t326.length co51] 28 (0, 0)) tq_52 hb); have n10_ := Aside0.mk (below_step tq_8 hb); clear HO310 HO313 HO316 HO321 HO324 HO328 BK303 BK304 BK325 BK329 HB; have HO310 := n0_; have HO313 := n1_; have HO316 := n2_; have HO321 := n3_; have HO324 := n4_; have HO328 := n5_; have BK303 := n6_; have BK304 := n7_; have BK325 := n8_; have BK329 := n9_; have HB := n10_; clear n0_ n1_ n2_ n3_ n4_ n5_ n6_ n7_ n8_ n9_ n10_; (try clear hb); (try clear hb2); (try clear hk); (try clear hi)))
    go_ret
    exact ⟨by first | rfl | (simp [errW_none, errW_some] <;> rfl) | (simp [*, errW_none, errW_some] <;> rfl), by repeat (first | (with_reducible first | exact HB.out | apply below_alloc | apply pw_below_drewN | apply below_drew1 | refine below_set ?_ GE303.out | refine below_set ?_ GE304.out | refine below_set ?_ GE325.out | refine below_set ?_ GE329.out) | exact HB.out)⟩
   ·rw [if_neg c25] at H
    have c25b0 : (t330 != t317) = false := by simpa using c25
    (try (have c25b1 : decide (t330 = t317) = true := by simpa using c25))
    (try (have c25b2 : (t330 == t317) = true := by simpa using c25))
    clear c25
    replace H := Option.bind_eq_some_iff.mp H
    obtain ⟨⟨t331, t332, t335⟩, A580, H⟩ := H
    replace H : ((laws_eqPart.f k t318 t319 t322 t331 t332 t335).bind fun t338 => (if t338 = true then ((laws_toView.f k l1_0).bind fun t339 => ((laws_eqView.f k t326 t339).bind fun t342 => (if t342 = true then (some true) else (some false)))) else (some false))) = some r := H
    have A58 := Aside0.mk A580
    clear A580
    replace H := Option.bind_eq_some_iff.mp H
    obtain ⟨t338, A590, H⟩ := H
    replace H : (if t338 = true then ((laws_toView.f k l1_0).bind fun t339 => ((laws_eqView.f k t326 t339).bind fun t342 => (if t342 = true then (some true) else (some false)))) else (some false)) = some r := H
    have A59 := Aside0.mk A590
    clear A590
    by_cases c60 : t338 = true
    ·subst c60
     have H1 : ((laws_toView.f k l1_0).bind fun t339 => ((laws_eqView.f k t326 t339).bind fun t342 => (if t342 = true then (some true) else (some false)))) = some r := by rw [if_pos rfl] at H; exact H
     clear H
     have H := H1
     clear H1
     replace H := Option.bind_eq_some_iff.mp H
     obtain ⟨t339, A610, H⟩ := H
     replace H : ((laws_eqView.f k t326 t339).bind fun t342 => (if t342 = true then (some true) else (some false))) = some r := H
     have A61 := Aside0.mk A610
     clear A610
     replace H := Option.bind_eq_some_iff.mp H
     obtain ⟨t342, A620, H⟩ := H
     replace H : (if t342 = true then (some true) else (some false)) = some r := H
     have A62 := Aside0.mk A620
     clear A620
     by_cases c63 : t342 = true
     ·subst c63
      have H1 : (some true) = some r := by rw [if_pos rfl] at H; exact H
      clear H
      have H := H1
      clear H1
      obtain rfl := Option.some.inj H
      go_enter Try.func10, Try.ntmps10
      try go_wp2_with (first | ((with_reducible refine gate_dst (N := 2) rfl ?_); refine box_event ?hg (N := 2) ?hd (cs := #[.int .i64 a0_0, .slice A0_1 l0_1.length c0_1, .slice A0_2 l0_2.length c0_2]) (t := 86) ?hr ?_; (case hd => rfl); (case hg => rfl); (case hr => first | (go_simp; done) | (go_simp; rfl)); intro gb303 hg w64 hbox hb; have n0_ := Aside0.mk (below_step tq_0 hb); have n1_ := Aside0.mk (hbox); have n2_ := Aside0.mk (gb_ hg tq_0); have n3_ := Aside0.mk (gb_ hg tq_0); clear HB; have HB := n0_; have BK303 := n1_; have GW303 := n2_; have GE303 := n3_; clear n0_ n1_ n2_ n3_; clear hb hbox hg) | ((with_reducible refine gate_dst (N := 3) rfl ?_); refine box_event ?hg (N := 3) ?hd (cs := #[.slice A1_0 l1_0.length c1_0]) (t := 24) ?hr ?_; (case hd => rfl); (case hg => rfl); (case hr => first | (go_simp; done) | (go_simp; rfl)); intro gb304 hg w65 hbox hb; have n0_ := Aside0.mk (blk_below tq_3 hb); have n1_ := Aside0.mk (below_step tq_21 hb); have n2_ := Aside0.mk (hbox); have n3_ := Aside0.mk (gb_ hg tq_21); have n4_ := Aside0.mk (gb_ hg tq_21); have n5_ := Aside0.mk (ltne_ hg (blk_lt tq_3)); have n6_ := Aside0.mk (gtne_ hg (blk_lt tq_3)); clear BK303 HB; have BK303 := n0_; have HB := n1_; have BK304 := n2_; have GW304 := n3_; have GE304 := n4_; have NB303_304 := n5_; have NB304_303 := n6_; clear n0_ n1_ n2_ n3_ n4_ n5_ n6_; clear hb hbox hg; have hnb66 := NB303_304.out; have hnc66 := NB304_303.out; have hcz67_0 := bc_ BK303.out 0; have hcz67_1 := bc_ BK303.out 1; have hcz67_2 := bc_ BK303.out 2; have hfz67_0 := blk_frozen BK303.out 0; have hfz67_1 := blk_frozen BK303.out 1; have hfz67_2 := blk_frozen BK303.out 2) | ((with_reducible refine gate_callee (f := 53) rfl ?_); refine goesL_ (some 12) rfl rfl Try.func53 (by kernel_rfl) rfl #[.agg #[.int .i64 a0_0, .slice A0_1 l0_1.length c0_1, .slice A0_2 l0_2.length c0_2], .int .i64 1048576] rfl tq_1 ?_; (with_reducible refine (laws_szPart.calls k a0_0 _ _ l0_1 _ _ l0_2 1048576 t305 _ ?side1 ?side2 ?side3 ?side4 A3.out).mono ?_); (case side1 => exact tq_6); (case side2 => exact HC0_1.out); (case side3 => exact tq_7); (case side4 => exact HC0_2.out); rintro e w68 ⟨rfl, hb⟩; refine ⟨_, rfl, ?_⟩; have n0_ := Aside0.mk (blk_below tq_3 hb); have n1_ := Aside0.mk (blk_below tq_5 hb); have n2_ := Aside0.mk (below_step tq_2 hb); clear BK303 BK304 HB; have BK303 := n0_; have BK304 := n1_; have HB := n2_; clear n0_ n1_ n2_; (try clear hb); (try clear hb2); (try clear hk); (try clear hi); have hcz69_0 := bc_ BK304.out 0; have hfz69_0 := blk_frozen BK304.out 0) | ((with_reducible refine gate_callee (f := 15) rfl ?_); refine goesL_ (some 17) rfl rfl Try.func15 (by kernel_rfl) rfl #[.agg #[.slice A1_0 l1_0.length c1_0], .int .i64 t305] rfl tq_1 ?_; (with_reducible refine (laws_szView.calls k _ _ l1_0 t305 t306 _ ?side1 ?side2 A10.out).mono ?_); (case side1 => exact tq_14); (case side2 => exact HC1_0.out); rintro e w70 ⟨rfl, hb⟩; refine ⟨_, rfl, ?_⟩; have n0_ := Aside0.mk (blk_below tq_3 hb); have n1_ := Aside0.mk (blk_below tq_5 hb); have n2_ := Aside0.mk (below_step tq_2 hb); clear BK303 BK304 HB; have BK303 := n0_; have BK304 := n1_; have HB := n2_; clear n0_ n1_ n2_; (try clear hb); (try clear hb2); (try clear hk); (try clear hi)))
      have n0_ := Aside0.mk (blk_drew BK303.out)
      have n1_ := Aside0.mk (blk_drew BK304.out)
      have n2_ := Aside0.mk (below_drew1 HB.out)
      clear BK303 BK304 HB
      have BK303 := n0_
      have BK304 := n1_
      have HB := n2_
      clear n0_ n1_ n2_
      refine start_ (n := 6) (S := fun w' => w'.cell? ⟨gb303, 0, none⟩ = some (.int .i64 a0_0) ∧ w'.cell? ⟨gb303, 1, none⟩ = some (.slice A0_1 l0_1.length c0_1) ∧ w'.cell? ⟨gb303, 2, none⟩ = some (.slice A0_2 l0_2.length c0_2) ∧ w'.cell? ⟨gb304, 0, none⟩ = some (.slice A1_0 l1_0.length c1_0)) (ds := []) bq_0 (by kernel_rfl) rfl rfl ⟨(blk_cell BK303.out 0).trans rfl, (blk_cell BK303.out 1).trans rfl, (blk_cell BK303.out 2).trans rfl, (blk_cell BK304.out 0).trans rfl⟩ (fun hHeld => ?_)
      generalize w70.drew = w71 at BK303 BK304 HB hHeld ⊢
      refine take_ (i := 0) (N := some 20) (v := ?_) (a' := ?_) bq_62 rfl rfl (by kernel_rfl) (fun _ _ _ h => h) (Or.inl ⟨by rfl, ?_⟩) hHeld ?_ ?_
      rotate_left
      ·rintro w' ⟨s0, s1, s2, s3⟩
       go_simp
       with_reducible rfl
      rotate_left
      ·simp only [Act.put, List.setIfInBounds_toArray, List.set_cons_zero, List.set_cons_succ, i64_w, i32_w]
       rfl
      refine take_ (i := 2) (N := some 22) (v := ?_) (a' := ?_) bq_1 rfl rfl (by kernel_rfl) (fun _ _ _ h => h) (Or.inl ⟨by rfl, ?_⟩) hHeld ?_ ?_
      rotate_left
      ·rintro w' ⟨s0, s1, s2, s3⟩
       go_simp
       with_reducible rfl
      rotate_left
      ·simp only [Act.put, List.setIfInBounds_toArray, List.set_cons_zero, List.set_cons_succ, i64_w, i32_w]
       rfl
      refine one_ (i := 1) (N := some 21) bq_2 rfl rfl (by kernel_rfl) (by decide) (fun K hK => ?_)
      refine goes_ Try.func55 (by kernel_rfl) rfl #[.agg #[.int .i64 a0_0, .slice A0_1 l0_1.length c0_1, .slice A0_2 l0_2.length c0_2]] (by rfl) rfl rfl tq_1 ?_
      with_reducible refine (laws_toPart.calls k a0_0 _ _ l0_1 _ _ l0_2 t307 t308 t311 _ ?side1 ?side2 ?side3 ?side4 A19.out).mono ?_
      (case side1 => exact tq_6)
      (case side2 => exact HC0_1.out)
      (case side3 => exact tq_7)
      (case side4 => exact HC0_2.out)
      rintro e w72 ⟨v309, v312, rfl, ho0, ho1, hb⟩
      refine ⟨_, rfl, ?_⟩
      have n0_ := Aside0.mk (Kd.R_lower ho0 (below_size tq_2))
      have n1_ := Aside0.mk (Kd.S_lower ho1 (below_size tq_2))
      have n2_ := Aside0.mk (blk_below tq_3 hb)
      have n3_ := Aside0.mk (blk_below tq_5 hb)
      have n4_ := Aside0.mk (below_step tq_2 hb)
      clear BK303 BK304 HB
      have HO310 := n0_
      have HO313 := n1_
      have BK303 := n2_
      have BK304 := n3_
      have HB := n4_
      clear n0_ n1_ n2_ n3_ n4_
      (try clear hb)
      (try clear hb2)
      (try clear hk)
      (try clear hi)
      (try clear ho0)
      (try clear ho1)
      refine hK.out _ _ ⟨(blk_cell BK303.out 0).trans rfl, (blk_cell BK303.out 1).trans rfl, (blk_cell BK303.out 2).trans rfl, (blk_cell BK304.out 0).trans rfl⟩ (fun hHeld => ?_)
      clear hK K
      refine norm_ (a' := ?_) ?_ ?_
      rotate_left
      ·show Act.put _ (some 21) _ = _
       simp only [Act.put, List.setIfInBounds_toArray, List.set_cons_zero, List.set_cons_succ, i64_w, i32_w]
       rfl
      refine one_ (i := 3) (N := some 23) bq_3 rfl rfl (by kernel_rfl) (by decide) (fun K hK => ?_)
      refine goes_ Try.func17 (by kernel_rfl) rfl #[.agg #[.slice A1_0 l1_0.length c1_0]] (by rfl) rfl rfl tq_1 ?_
      with_reducible refine (laws_toView.calls k _ _ l1_0 t314 _ ?side1 ?side2 A20.out).mono ?_
      (case side1 => exact tq_14)
      (case side2 => exact HC1_0.out)
      rintro e w73 ⟨v315, rfl, ho0, hb⟩
      refine ⟨_, rfl, ?_⟩
      have n0_ := Aside0.mk (Kd.R_below tq_13 hb)
      have n1_ := Aside0.mk (Kd.S_below tq_12 hb)
      have n2_ := Aside0.mk (Kd.R_lower ho0 (below_size tq_2))
      have n3_ := Aside0.mk (blk_below tq_3 hb)
      have n4_ := Aside0.mk (blk_below tq_5 hb)
      have n5_ := Aside0.mk (below_step tq_2 hb)
      clear HO310 HO313 BK303 BK304 HB
      have HO310 := n0_
      have HO313 := n1_
      have HO316 := n2_
      have BK303 := n3_
      have BK304 := n4_
      have HB := n5_
      clear n0_ n1_ n2_ n3_ n4_ n5_
      (try clear hb)
      (try clear hb2)
      (try clear hk)
      (try clear hi)
      (try clear ho0)
      obtain ⟨Ao74, co74, eo74⟩ := Kd.R_slice HO310.out
      (first | subst eo74 | (injection eo74 with f1_ f2_ f3_; have f4_ := f1_.symm; have f5_ := f3_.symm; clear f1_ f2_ f3_; subst f4_; subst f5_))
      obtain ⟨Ao75, co75, eo75⟩ := Kd.S_slice HO313.out
      (first | subst eo75 | (injection eo75 with f1_ f2_ f3_; have f4_ := f1_.symm; have f5_ := f3_.symm; clear f1_ f2_ f3_; subst f4_; subst f5_))
      obtain ⟨Ao76, co76, eo76⟩ := Kd.R_slice HO316.out
      (first | subst eo76 | (injection eo76 with f1_ f2_ f3_; have f4_ := f1_.symm; have f5_ := f3_.symm; clear f1_ f2_ f3_; subst f4_; subst f5_))
      refine hK.out _ _ ⟨(blk_cell BK303.out 0).trans rfl, (blk_cell BK303.out 1).trans rfl, (blk_cell BK303.out 2).trans rfl, (blk_cell BK304.out 0).trans rfl⟩ (fun hHeld => ?_)
      clear hK K
      refine norm_ (a' := ?_) ?_ ?_
      rotate_left
      ·show Act.put _ (some 23) _ = _
       simp only [Act.put, List.setIfInBounds_toArray, List.set_cons_zero, List.set_cons_succ, i64_w, i32_w]
       rfl
      refine one_ (i := 4) (N := some 24) bq_4 rfl rfl (by kernel_rfl) (by decide) (fun K hK => ?_)
      refine goes_ Try.func54 (by kernel_rfl) rfl #[.agg #[.int .i64 t307, .slice Ao74 t308.length co74, .slice Ao75 t311.length co75], .agg #[.slice Ao76 t314.length co76]] (by rfl) rfl rfl tq_1 ?_
      with_reducible refine (spec_Fits.calls k t307 _ _ t308 _ _ t311 _ _ t314 t317 _ ?side1 ?side2 ?side3 ?side4 ?side5 ?side6 A21.out).mono ?_
      (case side1 => exact tq_76)
      (case side2 => exact (Kd.R_reads' HO310.out).2.1)
      (case side3 => exact tq_74)
      (case side4 => exact (Kd.S_reads' HO313.out).2.1)
      (case side5 => exact tq_75)
      (case side6 => exact (Kd.R_reads' HO316.out).2.1)
      rintro e w77 ⟨rfl, hb⟩
      refine ⟨_, rfl, ?_⟩
      have n0_ := Aside0.mk (Kd.R_below tq_13 hb)
      have n1_ := Aside0.mk (Kd.S_below tq_12 hb)
      have n2_ := Aside0.mk (Kd.R_below tq_23 hb)
      have n3_ := Aside0.mk (blk_below tq_3 hb)
      have n4_ := Aside0.mk (blk_below tq_5 hb)
      have n5_ := Aside0.mk (below_step tq_2 hb)
      clear HO310 HO313 HO316 BK303 BK304 HB
      have HO310 := n0_
      have HO313 := n1_
      have HO316 := n2_
      have BK303 := n3_
      have BK304 := n4_
      have HB := n5_
      clear n0_ n1_ n2_ n3_ n4_ n5_
      (try clear hb)
      (try clear hb2)
      (try clear hk)
      (try clear hi)
      refine hK.out _ _ ⟨(blk_cell BK303.out 0).trans rfl, (blk_cell BK303.out 1).trans rfl, (blk_cell BK303.out 2).trans rfl, (blk_cell BK304.out 0).trans rfl⟩ (fun hHeld => ?_)
      clear hK K
      refine norm_ (a' := ?_) ?_ ?_
      rotate_left
      ·show Act.put _ (some 24) _ = _
       simp only [Act.put, List.setIfInBounds_toArray, List.set_cons_zero, List.set_cons_succ, i64_w, i32_w]
       rfl
      refine yq_ (i := 5) (N := some 6) bq_5 (by kernel_rfl) ?_
      refine done_ (by kernel_rfl) ?_
      have hcz78_0 := bc_ BK303.out 0
      have hcz78_1 := bc_ BK303.out 1
      have hcz78_2 := bc_ BK303.out 2
      have hfz78_0 := blk_frozen BK303.out 0
      have hfz78_1 := blk_frozen BK303.out 1
      have hfz78_2 := blk_frozen BK303.out 2
      try go_wp2_with (first | ((with_reducible refine gate_callee (f := 55) rfl ?_); refine goesL_ (some 26) rfl rfl Try.func55 (by kernel_rfl) rfl #[.agg #[.int .i64 a0_0, .slice A0_1 l0_1.length c0_1, .slice A0_2 l0_2.length c0_2]] rfl tq_1 ?_; (with_reducible refine (laws_toPart.calls k a0_0 _ _ l0_1 _ _ l0_2 t318 t319 t322 _ ?side1 ?side2 ?side3 ?side4 A22.out).mono ?_); (case side1 => exact tq_6); (case side2 => exact HC0_1.out); (case side3 => exact tq_7); (case side4 => exact HC0_2.out); rintro e w79 ⟨v320, v323, rfl, ho0, ho1, hb⟩; refine ⟨_, rfl, ?_⟩; have n0_ := Aside0.mk (Kd.R_elder' tq_13 (Kd.R_base ho0) hb); have n1_ := Aside0.mk (Kd.S_elder' tq_12 (Kd.S_base ho1) hb); have n2_ := Aside0.mk (Kd.R_below tq_23 hb); have n3_ := Aside0.mk (Kd.R_lower (Kd.R_new' ho0 (Kd.R_lt tq_13)) (below_size tq_2)); have n4_ := Aside0.mk (Kd.S_lower (Kd.S_new' ho1 (Kd.S_lt tq_12)) (below_size tq_2)); have n5_ := Aside0.mk (blk_below tq_3 hb); have n6_ := Aside0.mk (blk_below tq_5 hb); have n7_ := Aside0.mk (below_step tq_2 hb); clear HO310 HO313 HO316 BK303 BK304 HB; have HO310 := n0_; have HO313 := n1_; have HO316 := n2_; have HO321 := n3_; have HO324 := n4_; have BK303 := n5_; have BK304 := n6_; have HB := n7_; clear n0_ n1_ n2_ n3_ n4_ n5_ n6_ n7_; (try clear hb); (try clear hb2); (try clear hk); (try clear hi); (try clear ho0); (try clear ho1)) | ((with_reducible refine gate_dst (N := 7) rfl ?_); refine box_event ?hg (N := 7) ?hd (cs := #[.int .i64 0, .slice none 0 0, .slice none 0 0]) (t := 69) ?hr ?_; (case hd => rfl); (case hg => rfl); (case hr => first | (go_simp; done) | (go_simp; rfl)); intro gb325 hg w80 hbox hb; have n0_ := Aside0.mk (Kd.R_below tq_13 hb); have n1_ := Aside0.mk (Kd.S_below tq_12 hb); have n2_ := Aside0.mk (Kd.R_below tq_23 hb); have n3_ := Aside0.mk (Kd.R_below tq_26 hb); have n4_ := Aside0.mk (Kd.S_below tq_25 hb); have n5_ := Aside0.mk (blk_below tq_3 hb); have n6_ := Aside0.mk (blk_below tq_5 hb); have n7_ := Aside0.mk (below_step tq_2 hb); have n8_ := Aside0.mk (hbox); have n9_ := Aside0.mk (gb_ hg tq_2); have n10_ := Aside0.mk (gb_ hg tq_2); have n11_ := Aside0.mk (ltne_ hg (blk_lt tq_3)); have n12_ := Aside0.mk (gtne_ hg (blk_lt tq_3)); have n13_ := Aside0.mk (ltne_ hg (blk_lt tq_5)); have n14_ := Aside0.mk (gtne_ hg (blk_lt tq_5)); clear HO310 HO313 HO316 HO321 HO324 BK303 BK304 HB; have HO310 := n0_; have HO313 := n1_; have HO316 := n2_; have HO321 := n3_; have HO324 := n4_; have BK303 := n5_; have BK304 := n6_; have HB := n7_; have BK325 := n8_; have GW325 := n9_; have GE325 := n10_; have NB303_325 := n11_; have NB325_303 := n12_; have NB304_325 := n13_; have NB325_304 := n14_; clear n0_ n1_ n2_ n3_ n4_ n5_ n6_ n7_ n8_ n9_ n10_ n11_ n12_ n13_ n14_; clear hb hbox hg; have hnb81 := NB325_303.out; have hnc81 := NB303_325.out; have hnb82 := NB325_304.out; have hnc82 := NB304_325.out; have hcz83_0 := bc_ BK325.out 0; have hcz83_1 := bc_ BK325.out 1; have hcz83_2 := bc_ BK325.out 2; have hfz83_0 := blk_frozen BK325.out 0; have hfz83_1 := blk_frozen BK325.out 1; have hfz83_2 := blk_frozen BK325.out 2; obtain ⟨Ao84, co84, eo84⟩ := Kd.R_slice HO321.out; subst eo84; obtain ⟨Ao85, co85, eo85⟩ := Kd.S_slice HO324.out; subst eo85; have hcz86_0 := bc_ BK304.out 0; have hfz86_0 := blk_frozen BK304.out 0) | ((with_reducible refine gate_callee (f := 17) rfl ?_); refine goesL_ (some 28) rfl rfl Try.func17 (by kernel_rfl) rfl #[.agg #[.slice A1_0 l1_0.length c1_0]] rfl tq_1 ?_; (with_reducible refine (laws_toView.calls k _ _ l1_0 t326 _ ?side1 ?side2 A23.out).mono ?_); (case side1 => exact Kd.C_below HR1_0.out tq_9); (case side2 => exact HC1_0.out); rintro e w87 ⟨v327, rfl, ho0, hb⟩; refine ⟨_, rfl, ?_⟩; have n0_ := Aside0.mk (Kd.R_below (by (with_reducible repeat (first | apply Kd.R_alloc | apply Kd.R_drewN | apply Kd.R_drew)); exact (Kd.R_mono (Kd.R_far (p := ⟨gb325, 2, none⟩) (Kd.R_far (p := ⟨gb325, 1, none⟩) (Kd.R_far (p := ⟨gb325, 0, none⟩) (Kd.R_types HO310.out BK325.out (by decide)) (fun _ hk => hk.2) (.int .i64 t318)) (fun _ hk => hk.2) (.slice Ao84 t319.length co84)) (fun _ hk => hk.2) (.slice Ao85 t322.length co85)) (fun _ h_ => h_.1))) hb); have n1_ := Aside0.mk (Kd.S_below (by (with_reducible repeat (first | apply Kd.S_alloc | apply Kd.S_drewN | apply Kd.S_drew)); exact (Kd.S_mono (Kd.S_far (p := ⟨gb325, 2, none⟩) (Kd.S_far (p := ⟨gb325, 1, none⟩) (Kd.S_far (p := ⟨gb325, 0, none⟩) (Kd.S_types HO313.out BK325.out (by decide)) (fun _ hk => hk.2) (.int .i64 t318)) (fun _ hk => hk.2) (.slice Ao84 t319.length co84)) (fun _ hk => hk.2) (.slice Ao85 t322.length co85)) (fun _ h_ => h_.1))) hb); have n2_ := Aside0.mk (Kd.R_elder' tq_82 (Kd.R_base ho0) hb); have n3_ := Aside0.mk (Kd.R_below (by (with_reducible repeat (first | apply Kd.R_alloc | apply Kd.R_drewN | apply Kd.R_drew)); exact (Kd.R_mono (Kd.R_far (p := ⟨gb325, 2, none⟩) (Kd.R_far (p := ⟨gb325, 1, none⟩) (Kd.R_far (p := ⟨gb325, 0, none⟩) (Kd.R_types HO321.out BK325.out (by decide)) (fun _ hk => hk.2) (.int .i64 t318)) (fun _ hk => hk.2) (.slice Ao84 t319.length co84)) (fun _ hk => hk.2) (.slice Ao85 t322.length co85)) (fun _ h_ => h_.1))) hb); have n4_ := Aside0.mk (Kd.S_below (by (with_reducible repeat (first | apply Kd.S_alloc | apply Kd.S_drewN | apply Kd.S_drew)); exact (Kd.S_mono (Kd.S_far (p := ⟨gb325, 2, none⟩) (Kd.S_far (p := ⟨gb325, 1, none⟩) (Kd.S_far (p := ⟨gb325, 0, none⟩) (Kd.S_types HO324.out BK325.out (by decide)) (fun _ hk => hk.2) (.int .i64 t318)) (fun _ hk => hk.2) (.slice Ao84 t319.length co84)) (fun _ hk => hk.2) (.slice Ao85 t322.length co85)) (fun _ h_ => h_.1))) hb); have n5_ := Aside0.mk (Kd.R_lower (Kd.R_new' ho0 (Kd.R_lt tq_82)) (below_size tq_9)); have n6_ := Aside0.mk (blk_below (g := gb303) (o := .cells #[.int .i64 a0_0, .slice A0_1 l0_1.length c0_1, .slice A0_2 l0_2.length c0_2] 86 (0, 0)) tq_35 hb); have n7_ := Aside0.mk (blk_below (g := gb304) (o := .cells #[.slice A1_0 l1_0.length c1_0] 24 (0, 0)) tq_34 hb); have n8_ := Aside0.mk (blk_below (g := gb325) (o := .cells #[.int .i64 t318, .slice Ao84 t319.length co84, .slice Ao85 t322.length co85] 69 (0, 0)) (by (with_reducible repeat (first | refine blk_drewN ?_ _ | refine blk_drew ?_ | refine blk_alloc ?_ _)); refine blk_put (cs := #[.int .i64 t318, .slice Ao84 t319.length co84, .slice none 0 0]) ?_ 2 _ rfl; (with_reducible repeat (first | refine blk_drewN ?_ _ | refine blk_drew ?_ | refine blk_alloc ?_ _)); refine blk_put (cs := #[.int .i64 t318, .slice none 0 0, .slice none 0 0]) ?_ 1 _ rfl; (with_reducible repeat (first | refine blk_drewN ?_ _ | refine blk_drew ?_ | refine blk_alloc ?_ _)); refine blk_put (cs := #[.int .i64 0, .slice none 0 0, .slice none 0 0]) ?_ 0 _ rfl; (with_reducible repeat (first | refine blk_drewN ?_ _ | refine blk_drew ?_ | refine blk_alloc ?_ _)); exact BK325.out) hb); have n9_ := Aside0.mk (below_step tq_9 hb); clear HO310 HO313 HO316 HO321 HO324 BK303 BK304 BK325 HB; have HO310 := n0_; have HO313 := n1_; have HO316 := n2_; have HO321 := n3_; have HO324 := n4_; have HO328 := n5_; have BK303 := n6_; have BK304 := n7_; have BK325 := n8_; have HB := n9_; clear n0_ n1_ n2_ n3_ n4_ n5_ n6_ n7_ n8_ n9_; (try clear hb); (try clear hb2); (try clear hk); (try clear hi); (try clear ho0)) | ((with_reducible refine gate_dst (N := 8) rfl ?_); refine box_event ?hg (N := 8) ?hd (cs := #[.slice none 0 0]) (t := 28) ?hr ?_; (case hd => rfl); (case hg => rfl); (case hr => first | (go_simp; done) | (go_simp; rfl)); intro gb329 hg w88 hbox hb; have n0_ := Aside0.mk (Kd.R_below tq_13 hb); have n1_ := Aside0.mk (Kd.S_below tq_12 hb); have n2_ := Aside0.mk (Kd.R_below tq_23 hb); have n3_ := Aside0.mk (Kd.R_below tq_26 hb); have n4_ := Aside0.mk (Kd.S_below tq_25 hb); have n5_ := Aside0.mk (Kd.R_below tq_36 hb); have n6_ := Aside0.mk (blk_below tq_3 hb); have n7_ := Aside0.mk (blk_below tq_5 hb); have n8_ := Aside0.mk (blk_below tq_24 hb); have n9_ := Aside0.mk (below_step tq_9 hb); have n10_ := Aside0.mk (hbox); have n11_ := Aside0.mk (gb_ hg tq_9); have n12_ := Aside0.mk (gb_ hg tq_9); have n13_ := Aside0.mk (ltne_ hg (blk_lt tq_3)); have n14_ := Aside0.mk (gtne_ hg (blk_lt tq_3)); have n15_ := Aside0.mk (ltne_ hg (blk_lt tq_5)); have n16_ := Aside0.mk (gtne_ hg (blk_lt tq_5)); have n17_ := Aside0.mk (ltne_ hg (blk_lt tq_24)); have n18_ := Aside0.mk (gtne_ hg (blk_lt tq_24)); clear HO310 HO313 HO316 HO321 HO324 HO328 BK303 BK304 BK325 HB; have HO310 := n0_; have HO313 := n1_; have HO316 := n2_; have HO321 := n3_; have HO324 := n4_; have HO328 := n5_; have BK303 := n6_; have BK304 := n7_; have BK325 := n8_; have HB := n9_; have BK329 := n10_; have GW329 := n11_; have GE329 := n12_; have NB303_329 := n13_; have NB329_303 := n14_; have NB304_329 := n15_; have NB329_304 := n16_; have NB325_329 := n17_; have NB329_325 := n18_; clear n0_ n1_ n2_ n3_ n4_ n5_ n6_ n7_ n8_ n9_ n10_ n11_ n12_ n13_ n14_ n15_ n16_ n17_ n18_; clear hb hbox hg; obtain ⟨Ao89, co89, eo89⟩ := Kd.R_slice HO328.out; subst eo89; have hnb90 := NB329_303.out; have hnc90 := NB303_329.out; have hnb91 := NB329_304.out; have hnc91 := NB304_329.out; have hnb92 := NB329_325.out; have hnc92 := NB325_329.out; have hcz93_0 := bc_ BK329.out 0; have hfz93_0 := blk_frozen BK329.out 0; have hcz94_0 := bc_ BK325.out 0; have hcz94_1 := bc_ BK325.out 1; have hcz94_2 := bc_ BK325.out 2; have hfz94_0 := blk_frozen BK325.out 0; have hfz94_1 := blk_frozen BK325.out 1; have hfz94_2 := blk_frozen BK325.out 2) | ((with_reducible refine gate_callee (f := 56) rfl ?_); refine goesL_ (some 31) rfl rfl Try.func56 (by kernel_rfl) rfl #[.agg #[.int .i64 t318, .slice Ao84 t319.length co84, .slice Ao85 t322.length co85], .agg #[.slice Ao89 t326.length co89]] rfl tq_1 ?_; (with_reducible refine (impl_Fits.calls k t318 _ _ t319 _ _ t322 _ _ t326 t330 _ ?side1 ?side2 ?side3 ?side4 ?side5 ?side6 A24.out).mono ?_); (case side1 => refine (Kd.R_reads' (e := 3) (base := w.heap.size) (ok := fun k_ => (True ∧ some k_ ≠ (.slice Ao74 t308.length co74 : Value).ownBlock)) (n := t319.length) (c := co84) ?_).2.2; exact tq_121); (case side2 => exact (Kd.R_reads' HO321.out).2.1); (case side3 => refine (Kd.S_reads' (e := 49) (base := w.heap.size) (ok := fun k_ => (True ∧ some k_ ≠ (.slice Ao75 t311.length co75 : Value).ownBlock)) (n := t322.length) (c := co85) ?_).2.2; exact tq_117); (case side4 => exact (Kd.S_reads' HO324.out).2.1); (case side5 => refine (Kd.R_reads' (e := 38) (base := w.heap.size) (ok := fun k_ => (True ∧ some k_ ≠ (.slice Ao76 t314.length co76 : Value).ownBlock)) (n := t326.length) (c := co89) ?_).2.2; exact tq_119); (case side6 => exact (Kd.R_reads' HO328.out).2.1); rintro e w95 ⟨rfl, hb⟩; refine ⟨_, rfl, ?_⟩; have n0_ := Aside0.mk (Kd.R_below (by (with_reducible repeat (first | apply Kd.R_alloc | apply Kd.R_drewN | apply Kd.R_drew)); exact (Kd.R_mono (Kd.R_far (p := ⟨gb329, 0, none⟩) (Kd.R_types HO310.out BK329.out (by decide)) (fun _ hk => hk.2) (.slice Ao89 t326.length co89)) (fun _ h_ => h_.1))) hb); have n1_ := Aside0.mk (Kd.S_below (by (with_reducible repeat (first | apply Kd.S_alloc | apply Kd.S_drewN | apply Kd.S_drew)); exact (Kd.S_mono (Kd.S_far (p := ⟨gb329, 0, none⟩) (Kd.S_types HO313.out BK329.out (by decide)) (fun _ hk => hk.2) (.slice Ao89 t326.length co89)) (fun _ h_ => h_.1))) hb); have n2_ := Aside0.mk (Kd.R_below (by (with_reducible repeat (first | apply Kd.R_alloc | apply Kd.R_drewN | apply Kd.R_drew)); exact (Kd.R_mono (Kd.R_far (p := ⟨gb329, 0, none⟩) (Kd.R_types HO316.out BK329.out (by decide)) (fun _ hk => hk.2) (.slice Ao89 t326.length co89)) (fun _ h_ => h_.1))) hb); have n3_ := Aside0.mk (Kd.R_below tq_121 hb); have n4_ := Aside0.mk (Kd.S_below tq_117 hb); have n5_ := Aside0.mk (Kd.R_below tq_119 hb); have n6_ := Aside0.mk (blk_below (g := gb303) (o := .cells #[.int .i64 a0_0, .slice A0_1 l0_1.length c0_1, .slice A0_2 l0_2.length c0_2] 86 (0, 0)) tq_60 hb); have n7_ := Aside0.mk (blk_below (g := gb304) (o := .cells #[.slice A1_0 l1_0.length c1_0] 24 (0, 0)) tq_59 hb); have n8_ := Aside0.mk (blk_below (g := gb325) (o := .cells #[.int .i64 t318, .slice Ao84 t319.length co84, .slice Ao85 t322.length co85] 69 (0, 0)) tq_58 hb); have n9_ := Aside0.mk (blk_below (g := gb329) (o := .cells #[.slice Ao89 t326.length co89] 28 (0, 0)) tq_52 hb); have n10_ := Aside0.mk (below_step tq_8 hb); clear HO310 HO313 HO316 HO321 HO324 HO328 BK303 BK304 BK325 BK329 HB; have HO310 := n0_; have HO313 := n1_; have HO316 := n2_; have HO321 := n3_; have HO324 := n4_; have HO328 := n5_; have BK303 := n6_; have BK304 := n7_; have BK325 := n8_; have BK329 := n9_; have HB := n10_; clear n0_ n1_ n2_ n3_ n4_ n5_ n6_ n7_ n8_ n9_ n10_; (try clear hb); (try clear hb2); (try clear hk); (try clear hi)))
      have n0_ := Aside0.mk (Kd.R_drew HO310.out)
      have n1_ := Aside0.mk (Kd.S_drew HO313.out)
      have n2_ := Aside0.mk (Kd.R_drew HO316.out)
      have n3_ := Aside0.mk (Kd.R_drew HO321.out)
      have n4_ := Aside0.mk (Kd.S_drew HO324.out)
      have n5_ := Aside0.mk (Kd.R_drew HO328.out)
      have n6_ := Aside0.mk (blk_drew BK303.out)
      have n7_ := Aside0.mk (blk_drew BK304.out)
      have n8_ := Aside0.mk (blk_drew BK325.out)
      have n9_ := Aside0.mk (blk_drew BK329.out)
      have n10_ := Aside0.mk (below_drew1 HB.out)
      clear HO310 HO313 HO316 HO321 HO324 HO328 BK303 BK304 BK325 BK329 HB
      have HO310 := n0_
      have HO313 := n1_
      have HO316 := n2_
      have HO321 := n3_
      have HO324 := n4_
      have HO328 := n5_
      have BK303 := n6_
      have BK304 := n7_
      have BK325 := n8_
      have BK329 := n9_
      have HB := n10_
      clear n0_ n1_ n2_ n3_ n4_ n5_ n6_ n7_ n8_ n9_ n10_
      refine start_ (n := 5) (S := fun w' => w'.cell? ⟨gb325, 0, none⟩ = some (.int .i64 t318) ∧ w'.cell? ⟨gb325, 1, none⟩ = some (.slice Ao84 t319.length co84) ∧ w'.cell? ⟨gb325, 2, none⟩ = some (.slice Ao85 t322.length co85) ∧ w'.cell? ⟨gb303, 0, none⟩ = some (.int .i64 a0_0) ∧ w'.cell? ⟨gb303, 1, none⟩ = some (.slice A0_1 l0_1.length c0_1) ∧ w'.cell? ⟨gb303, 2, none⟩ = some (.slice A0_2 l0_2.length c0_2)) (ds := []) bq_50 (by kernel_rfl) rfl rfl ⟨(blk_cell BK325.out 0).trans rfl, (blk_cell BK325.out 1).trans rfl, (blk_cell BK325.out 2).trans rfl, (blk_cell BK303.out 0).trans rfl, (blk_cell BK303.out 1).trans rfl, (blk_cell BK303.out 2).trans rfl⟩ (fun hHeld => ?_)
      generalize w95.drew = w96 at HO310 HO313 HO316 HO321 HO324 HO328 BK303 BK304 BK325 BK329 HB hHeld ⊢
      refine take_ (i := 0) (N := some 35) (v := ?_) (a' := ?_) bq_51 rfl rfl (by kernel_rfl) (fun _ _ _ h => h) (Or.inl ⟨by rfl, ?_⟩) hHeld ?_ ?_
      rotate_left
      ·rintro w' ⟨s0, s1, s2, s3, s4, s5⟩
       go_simp
       with_reducible rfl
      rotate_left
      ·simp only [Act.put, List.setIfInBounds_toArray, List.set_cons_zero, List.set_cons_succ, i64_w, i32_w]
       rfl
      refine take_ (i := 1) (N := some 36) (v := ?_) (a' := ?_) bq_52 rfl rfl (by kernel_rfl) (fun _ _ _ h => h) (Or.inl ⟨by rfl, ?_⟩) hHeld ?_ ?_
      rotate_left
      ·rintro w' ⟨s0, s1, s2, s3, s4, s5⟩
       go_simp
       with_reducible rfl
      rotate_left
      ·simp only [Act.put, List.setIfInBounds_toArray, List.set_cons_zero, List.set_cons_succ, i64_w, i32_w]
       rfl
      refine one_ (i := 2) (N := some 37) bq_53 rfl rfl (by kernel_rfl) (by decide) (fun K hK => ?_)
      refine goes_ Try.func55 (by kernel_rfl) rfl #[.agg #[.int .i64 a0_0, .slice A0_1 l0_1.length c0_1, .slice A0_2 l0_2.length c0_2]] (by rfl) rfl rfl tq_1 ?_
      with_reducible refine (laws_toPart.calls k a0_0 _ _ l0_1 _ _ l0_2 t331 t332 t335 _ ?side1 ?side2 ?side3 ?side4 A58.out).mono ?_
      (case side1 => exact tq_6)
      (case side2 => exact HC0_1.out)
      (case side3 => exact tq_7)
      (case side4 => exact HC0_2.out)
      rintro e w97 ⟨v333, v336, rfl, ho0, ho1, hb⟩
      refine ⟨_, rfl, ?_⟩
      have n0_ := Aside0.mk (Kd.R_elder' tq_13 (Kd.R_base ho0) hb)
      have n1_ := Aside0.mk (Kd.S_elder' tq_12 (Kd.S_base ho1) hb)
      have n2_ := Aside0.mk (Kd.R_below tq_23 hb)
      have n3_ := Aside0.mk (Kd.R_elder' tq_26 (Kd.R_base ho0) hb)
      have n4_ := Aside0.mk (Kd.S_elder' tq_25 (Kd.S_base ho1) hb)
      have n5_ := Aside0.mk (Kd.R_below tq_36 hb)
      have n6_ := Aside0.mk (Kd.R_lower (Kd.R_new' (Kd.R_new' ho0 (Kd.R_lt tq_13)) (Kd.R_lt tq_26)) (below_size tq_8))
      have n7_ := Aside0.mk (Kd.S_lower (Kd.S_new' (Kd.S_new' ho1 (Kd.S_lt tq_12)) (Kd.S_lt tq_25)) (below_size tq_8))
      have n8_ := Aside0.mk (blk_below tq_3 hb)
      have n9_ := Aside0.mk (blk_below tq_5 hb)
      have n10_ := Aside0.mk (blk_below tq_24 hb)
      have n11_ := Aside0.mk (blk_below tq_45 hb)
      have n12_ := Aside0.mk (below_step tq_8 hb)
      clear HO310 HO313 HO316 HO321 HO324 HO328 BK303 BK304 BK325 BK329 HB
      have HO310 := n0_
      have HO313 := n1_
      have HO316 := n2_
      have HO321 := n3_
      have HO324 := n4_
      have HO328 := n5_
      have HO334 := n6_
      have HO337 := n7_
      have BK303 := n8_
      have BK304 := n9_
      have BK325 := n10_
      have BK329 := n11_
      have HB := n12_
      clear n0_ n1_ n2_ n3_ n4_ n5_ n6_ n7_ n8_ n9_ n10_ n11_ n12_
      (try clear hb)
      (try clear hb2)
      (try clear hk)
      (try clear hi)
      (try clear ho0)
      (try clear ho1)
      obtain ⟨Ao98, co98, eo98⟩ := Kd.R_slice HO334.out
      (first | subst eo98 | (injection eo98 with f1_ f2_ f3_; have f4_ := f1_.symm; have f5_ := f3_.symm; clear f1_ f2_ f3_; subst f4_; subst f5_))
      obtain ⟨Ao99, co99, eo99⟩ := Kd.S_slice HO337.out
      (first | subst eo99 | (injection eo99 with f1_ f2_ f3_; have f4_ := f1_.symm; have f5_ := f3_.symm; clear f1_ f2_ f3_; subst f4_; subst f5_))
      refine hK.out _ _ ⟨(blk_cell BK325.out 0).trans rfl, (blk_cell BK325.out 1).trans rfl, (blk_cell BK325.out 2).trans rfl, (blk_cell BK303.out 0).trans rfl, (blk_cell BK303.out 1).trans rfl, (blk_cell BK303.out 2).trans rfl⟩ (fun hHeld => ?_)
      clear hK K
      refine norm_ (a' := ?_) ?_ ?_
      rotate_left
      ·show Act.put _ (some 37) _ = _
       simp only [Act.put, List.setIfInBounds_toArray, List.set_cons_zero, List.set_cons_succ, i64_w, i32_w]
       rfl
      refine one_ (i := 3) (N := some 38) bq_54 rfl rfl (by kernel_rfl) (by decide) (fun K hK => ?_)
      refine goes_ Try.func50 (by kernel_rfl) rfl #[.agg #[.int .i64 t318, .slice Ao84 t319.length co84, .slice Ao85 t322.length co85], .agg #[.int .i64 t331, .slice Ao98 t332.length co98, .slice Ao99 t335.length co99]] (by rfl) rfl rfl tq_1 ?_
      with_reducible refine (laws_eqPart.calls k t318 _ _ t319 _ _ t322 t331 _ _ t332 _ _ t335 true _ ?side1 ?side2 ?side3 ?side4 ?side5 ?side6 ?side7 ?side8 A59.out).mono ?_
      (case side1 => exact tq_109)
      (case side2 => exact (Kd.R_reads' HO321.out).2.1)
      (case side3 => exact tq_107)
      (case side4 => exact (Kd.S_reads' HO324.out).2.1)
      (case side5 => exact tq_108)
      (case side6 => exact (Kd.R_reads' HO334.out).2.1)
      (case side7 => exact tq_106)
      (case side8 => exact (Kd.S_reads' HO337.out).2.1)
      rintro e w100 ⟨rfl, hb⟩
      refine ⟨_, rfl, ?_⟩
      have n0_ := Aside0.mk (Kd.R_below tq_13 hb)
      have n1_ := Aside0.mk (Kd.S_below tq_12 hb)
      have n2_ := Aside0.mk (Kd.R_below tq_23 hb)
      have n3_ := Aside0.mk (Kd.R_below tq_26 hb)
      have n4_ := Aside0.mk (Kd.S_below tq_25 hb)
      have n5_ := Aside0.mk (Kd.R_below tq_36 hb)
      have n6_ := Aside0.mk (Kd.R_below tq_64 hb)
      have n7_ := Aside0.mk (Kd.S_below tq_63 hb)
      have n8_ := Aside0.mk (blk_below tq_3 hb)
      have n9_ := Aside0.mk (blk_below tq_5 hb)
      have n10_ := Aside0.mk (blk_below tq_24 hb)
      have n11_ := Aside0.mk (blk_below tq_45 hb)
      have n12_ := Aside0.mk (below_step tq_8 hb)
      clear HO310 HO313 HO316 HO321 HO324 HO328 HO334 HO337 BK303 BK304 BK325 BK329 HB
      have HO310 := n0_
      have HO313 := n1_
      have HO316 := n2_
      have HO321 := n3_
      have HO324 := n4_
      have HO328 := n5_
      have HO334 := n6_
      have HO337 := n7_
      have BK303 := n8_
      have BK304 := n9_
      have BK325 := n10_
      have BK329 := n11_
      have HB := n12_
      clear n0_ n1_ n2_ n3_ n4_ n5_ n6_ n7_ n8_ n9_ n10_ n11_ n12_
      (try clear hb)
      (try clear hb2)
      (try clear hk)
      (try clear hi)
      refine hK.out _ _ ⟨(blk_cell BK325.out 0).trans rfl, (blk_cell BK325.out 1).trans rfl, (blk_cell BK325.out 2).trans rfl, (blk_cell BK303.out 0).trans rfl, (blk_cell BK303.out 1).trans rfl, (blk_cell BK303.out 2).trans rfl⟩ (fun hHeld => ?_)
      clear hK K
      refine norm_ (a' := ?_) ?_ ?_
      rotate_left
      ·show Act.put _ (some 38) _ = _
       simp only [Act.put, List.setIfInBounds_toArray, List.set_cons_zero, List.set_cons_succ, i64_w, i32_w]
       rfl
      refine yq_ (i := 4) (N := some 39) bq_55 (by kernel_rfl) ?_
      refine done_ (by kernel_rfl) ?_
      try go_wp2
      have n0_ := Aside0.mk (Kd.R_drew HO310.out)
      have n1_ := Aside0.mk (Kd.S_drew HO313.out)
      have n2_ := Aside0.mk (Kd.R_drew HO316.out)
      have n3_ := Aside0.mk (Kd.R_drew HO321.out)
      have n4_ := Aside0.mk (Kd.S_drew HO324.out)
      have n5_ := Aside0.mk (Kd.R_drew HO328.out)
      have n6_ := Aside0.mk (Kd.R_drew HO334.out)
      have n7_ := Aside0.mk (Kd.S_drew HO337.out)
      have n8_ := Aside0.mk (blk_drew BK303.out)
      have n9_ := Aside0.mk (blk_drew BK304.out)
      have n10_ := Aside0.mk (blk_drew BK325.out)
      have n11_ := Aside0.mk (blk_drew BK329.out)
      have n12_ := Aside0.mk (below_drew1 HB.out)
      clear HO310 HO313 HO316 HO321 HO324 HO328 HO334 HO337 BK303 BK304 BK325 BK329 HB
      have HO310 := n0_
      have HO313 := n1_
      have HO316 := n2_
      have HO321 := n3_
      have HO324 := n4_
      have HO328 := n5_
      have HO334 := n6_
      have HO337 := n7_
      have BK303 := n8_
      have BK304 := n9_
      have BK325 := n10_
      have BK329 := n11_
      have HB := n12_
      clear n0_ n1_ n2_ n3_ n4_ n5_ n6_ n7_ n8_ n9_ n10_ n11_ n12_
      refine start_ (n := 5) (S := fun w' => w'.cell? ⟨gb329, 0, none⟩ = some (.slice Ao89 t326.length co89) ∧ w'.cell? ⟨gb304, 0, none⟩ = some (.slice A1_0 l1_0.length c1_0)) (ds := []) bq_50 (by kernel_rfl) rfl rfl ⟨(blk_cell BK329.out 0).trans rfl, (blk_cell BK304.out 0).trans rfl⟩ (fun hHeld => ?_)
      generalize w100.drew = w101 at HO310 HO313 HO316 HO321 HO324 HO328 HO334 HO337 BK303 BK304 BK325 BK329 HB hHeld ⊢
      refine take_ (i := 0) (N := some 40) (v := ?_) (a' := ?_) bq_51 rfl rfl (by kernel_rfl) (fun _ _ _ h => h) (Or.inl ⟨by rfl, ?_⟩) hHeld ?_ ?_
      rotate_left
      ·rintro w' ⟨s0, s1⟩
       go_simp
       with_reducible rfl
      rotate_left
      ·simp only [Act.put, List.setIfInBounds_toArray, List.set_cons_zero, List.set_cons_succ, i64_w, i32_w]
       rfl
      refine take_ (i := 1) (N := some 41) (v := ?_) (a' := ?_) bq_52 rfl rfl (by kernel_rfl) (fun _ _ _ h => h) (Or.inl ⟨by rfl, ?_⟩) hHeld ?_ ?_
      rotate_left
      ·rintro w' ⟨s0, s1⟩
       go_simp
       with_reducible rfl
      rotate_left
      ·simp only [Act.put, List.setIfInBounds_toArray, List.set_cons_zero, List.set_cons_succ, i64_w, i32_w]
       rfl
      refine one_ (i := 2) (N := some 42) bq_53 rfl rfl (by kernel_rfl) (by decide) (fun K hK => ?_)
      refine goes_ Try.func17 (by kernel_rfl) rfl #[.agg #[.slice A1_0 l1_0.length c1_0]] (by rfl) rfl rfl tq_1 ?_
      with_reducible refine (laws_toView.calls k _ _ l1_0 t339 _ ?side1 ?side2 A61.out).mono ?_
      (case side1 => exact tq_14)
      (case side2 => exact HC1_0.out)
      rintro e w102 ⟨v340, rfl, ho0, hb⟩
      refine ⟨_, rfl, ?_⟩
      have n0_ := Aside0.mk (Kd.R_below tq_13 hb)
      have n1_ := Aside0.mk (Kd.S_below tq_12 hb)
      have n2_ := Aside0.mk (Kd.R_elder' tq_23 (Kd.R_base ho0) hb)
      have n3_ := Aside0.mk (Kd.R_below tq_26 hb)
      have n4_ := Aside0.mk (Kd.S_below tq_25 hb)
      have n5_ := Aside0.mk (Kd.R_elder' tq_36 (Kd.R_base ho0) hb)
      have n6_ := Aside0.mk (Kd.R_below tq_64 hb)
      have n7_ := Aside0.mk (Kd.S_below tq_63 hb)
      have n8_ := Aside0.mk (Kd.R_lower (Kd.R_new' (Kd.R_new' ho0 (Kd.R_lt tq_23)) (Kd.R_lt tq_36)) (below_size tq_8))
      have n9_ := Aside0.mk (blk_below tq_3 hb)
      have n10_ := Aside0.mk (blk_below tq_5 hb)
      have n11_ := Aside0.mk (blk_below tq_24 hb)
      have n12_ := Aside0.mk (blk_below tq_45 hb)
      have n13_ := Aside0.mk (below_step tq_8 hb)
      clear HO310 HO313 HO316 HO321 HO324 HO328 HO334 HO337 BK303 BK304 BK325 BK329 HB
      have HO310 := n0_
      have HO313 := n1_
      have HO316 := n2_
      have HO321 := n3_
      have HO324 := n4_
      have HO328 := n5_
      have HO334 := n6_
      have HO337 := n7_
      have HO341 := n8_
      have BK303 := n9_
      have BK304 := n10_
      have BK325 := n11_
      have BK329 := n12_
      have HB := n13_
      clear n0_ n1_ n2_ n3_ n4_ n5_ n6_ n7_ n8_ n9_ n10_ n11_ n12_ n13_
      (try clear hb)
      (try clear hb2)
      (try clear hk)
      (try clear hi)
      (try clear ho0)
      obtain ⟨Ao103, co103, eo103⟩ := Kd.R_slice HO341.out
      (first | subst eo103 | (injection eo103 with f1_ f2_ f3_; have f4_ := f1_.symm; have f5_ := f3_.symm; clear f1_ f2_ f3_; subst f4_; subst f5_))
      refine hK.out _ _ ⟨(blk_cell BK329.out 0).trans rfl, (blk_cell BK304.out 0).trans rfl⟩ (fun hHeld => ?_)
      clear hK K
      refine norm_ (a' := ?_) ?_ ?_
      rotate_left
      ·show Act.put _ (some 42) _ = _
       simp only [Act.put, List.setIfInBounds_toArray, List.set_cons_zero, List.set_cons_succ, i64_w, i32_w]
       rfl
      refine one_ (i := 3) (N := some 43) bq_54 rfl rfl (by kernel_rfl) (by decide) (fun K hK => ?_)
      refine goes_ Try.func19 (by kernel_rfl) rfl #[.agg #[.slice Ao89 t326.length co89], .agg #[.slice Ao103 t339.length co103]] (by rfl) rfl rfl tq_1 ?_
      with_reducible refine (laws_eqView.calls k _ _ t326 _ _ t339 true _ ?side1 ?side2 ?side3 ?side4 A62.out).mono ?_
      (case side1 => exact tq_145)
      (case side2 => exact (Kd.R_reads' HO328.out).2.1)
      (case side3 => exact tq_144)
      (case side4 => exact (Kd.R_reads' HO341.out).2.1)
      rintro e w104 ⟨rfl, hb⟩
      refine ⟨_, rfl, ?_⟩
      have n0_ := Aside0.mk (Kd.R_below tq_13 hb)
      have n1_ := Aside0.mk (Kd.S_below tq_12 hb)
      have n2_ := Aside0.mk (Kd.R_below tq_23 hb)
      have n3_ := Aside0.mk (Kd.R_below tq_26 hb)
      have n4_ := Aside0.mk (Kd.S_below tq_25 hb)
      have n5_ := Aside0.mk (Kd.R_below tq_36 hb)
      have n6_ := Aside0.mk (Kd.R_below tq_64 hb)
      have n7_ := Aside0.mk (Kd.S_below tq_63 hb)
      have n8_ := Aside0.mk (Kd.R_below (by (with_reducible repeat (first | apply Kd.R_alloc | apply Kd.R_drewN | apply Kd.R_drew)); exact HO341.out) hb)
      have n9_ := Aside0.mk (blk_below tq_3 hb)
      have n10_ := Aside0.mk (blk_below tq_5 hb)
      have n11_ := Aside0.mk (blk_below tq_24 hb)
      have n12_ := Aside0.mk (blk_below tq_45 hb)
      have n13_ := Aside0.mk (below_step tq_8 hb)
      clear HO310 HO313 HO316 HO321 HO324 HO328 HO334 HO337 HO341 BK303 BK304 BK325 BK329 HB
      have HO310 := n0_
      have HO313 := n1_
      have HO316 := n2_
      have HO321 := n3_
      have HO324 := n4_
      have HO328 := n5_
      have HO334 := n6_
      have HO337 := n7_
      have HO341 := n8_
      have BK303 := n9_
      have BK304 := n10_
      have BK325 := n11_
      have BK329 := n12_
      have HB := n13_
      clear n0_ n1_ n2_ n3_ n4_ n5_ n6_ n7_ n8_ n9_ n10_ n11_ n12_ n13_
      (try clear hb)
      (try clear hb2)
      (try clear hk)
      (try clear hi)
      refine hK.out _ _ ⟨(blk_cell BK329.out 0).trans rfl, (blk_cell BK304.out 0).trans rfl⟩ (fun hHeld => ?_)
      clear hK K
      refine norm_ (a' := ?_) ?_ ?_
      rotate_left
      ·show Act.put _ (some 43) _ = _
       simp only [Act.put, List.setIfInBounds_toArray, List.set_cons_zero, List.set_cons_succ, i64_w, i32_w]
       rfl
      refine yq_ (i := 4) (N := some 44) bq_55 (by kernel_rfl) ?_
      refine done_ (by kernel_rfl) ?_
      try go_wp2
      go_ret
      exact ⟨by first | rfl | (simp [errW_none, errW_some] <;> rfl) | (simp [*, errW_none, errW_some] <;> rfl), by repeat (first | (with_reducible first | exact HB.out | apply below_alloc | apply pw_below_drewN | apply below_drew1 | refine below_set ?_ GE303.out | refine below_set ?_ GE304.out | refine below_set ?_ GE325.out | refine below_set ?_ GE329.out) | exact HB.out)⟩
     ·replace c63 := Bool.eq_false_iff.mpr c63
      subst c63
      have H1 : (some false) = some r := by rw [if_neg (show ¬ (false = true) by decide)] at H; exact H
      clear H
      have H := H1
      clear H1
      obtain rfl := Option.some.inj H
      go_enter Try.func10, Try.ntmps10
      try go_wp2_with (first | ((with_reducible refine gate_dst (N := 2) rfl ?_); refine box_event ?hg (N := 2) ?hd (cs := #[.int .i64 a0_0, .slice A0_1 l0_1.length c0_1, .slice A0_2 l0_2.length c0_2]) (t := 86) ?hr ?_; (case hd => rfl); (case hg => rfl); (case hr => first | (go_simp; done) | (go_simp; rfl)); intro gb303 hg w105 hbox hb; have n0_ := Aside0.mk (below_step tq_0 hb); have n1_ := Aside0.mk (hbox); have n2_ := Aside0.mk (gb_ hg tq_0); have n3_ := Aside0.mk (gb_ hg tq_0); clear HB; have HB := n0_; have BK303 := n1_; have GW303 := n2_; have GE303 := n3_; clear n0_ n1_ n2_ n3_; clear hb hbox hg) | ((with_reducible refine gate_dst (N := 3) rfl ?_); refine box_event ?hg (N := 3) ?hd (cs := #[.slice A1_0 l1_0.length c1_0]) (t := 24) ?hr ?_; (case hd => rfl); (case hg => rfl); (case hr => first | (go_simp; done) | (go_simp; rfl)); intro gb304 hg w106 hbox hb; have n0_ := Aside0.mk (blk_below tq_3 hb); have n1_ := Aside0.mk (below_step tq_21 hb); have n2_ := Aside0.mk (hbox); have n3_ := Aside0.mk (gb_ hg tq_21); have n4_ := Aside0.mk (gb_ hg tq_21); have n5_ := Aside0.mk (ltne_ hg (blk_lt tq_3)); have n6_ := Aside0.mk (gtne_ hg (blk_lt tq_3)); clear BK303 HB; have BK303 := n0_; have HB := n1_; have BK304 := n2_; have GW304 := n3_; have GE304 := n4_; have NB303_304 := n5_; have NB304_303 := n6_; clear n0_ n1_ n2_ n3_ n4_ n5_ n6_; clear hb hbox hg; have hnb107 := NB303_304.out; have hnc107 := NB304_303.out; have hcz108_0 := bc_ BK303.out 0; have hcz108_1 := bc_ BK303.out 1; have hcz108_2 := bc_ BK303.out 2; have hfz108_0 := blk_frozen BK303.out 0; have hfz108_1 := blk_frozen BK303.out 1; have hfz108_2 := blk_frozen BK303.out 2) | ((with_reducible refine gate_callee (f := 53) rfl ?_); refine goesL_ (some 12) rfl rfl Try.func53 (by kernel_rfl) rfl #[.agg #[.int .i64 a0_0, .slice A0_1 l0_1.length c0_1, .slice A0_2 l0_2.length c0_2], .int .i64 1048576] rfl tq_1 ?_; (with_reducible refine (laws_szPart.calls k a0_0 _ _ l0_1 _ _ l0_2 1048576 t305 _ ?side1 ?side2 ?side3 ?side4 A3.out).mono ?_); (case side1 => exact tq_6); (case side2 => exact HC0_1.out); (case side3 => exact tq_7); (case side4 => exact HC0_2.out); rintro e w109 ⟨rfl, hb⟩; refine ⟨_, rfl, ?_⟩; have n0_ := Aside0.mk (blk_below tq_3 hb); have n1_ := Aside0.mk (blk_below tq_5 hb); have n2_ := Aside0.mk (below_step tq_2 hb); clear BK303 BK304 HB; have BK303 := n0_; have BK304 := n1_; have HB := n2_; clear n0_ n1_ n2_; (try clear hb); (try clear hb2); (try clear hk); (try clear hi); have hcz110_0 := bc_ BK304.out 0; have hfz110_0 := blk_frozen BK304.out 0) | ((with_reducible refine gate_callee (f := 15) rfl ?_); refine goesL_ (some 17) rfl rfl Try.func15 (by kernel_rfl) rfl #[.agg #[.slice A1_0 l1_0.length c1_0], .int .i64 t305] rfl tq_1 ?_; (with_reducible refine (laws_szView.calls k _ _ l1_0 t305 t306 _ ?side1 ?side2 A10.out).mono ?_); (case side1 => exact tq_14); (case side2 => exact HC1_0.out); rintro e w111 ⟨rfl, hb⟩; refine ⟨_, rfl, ?_⟩; have n0_ := Aside0.mk (blk_below tq_3 hb); have n1_ := Aside0.mk (blk_below tq_5 hb); have n2_ := Aside0.mk (below_step tq_2 hb); clear BK303 BK304 HB; have BK303 := n0_; have BK304 := n1_; have HB := n2_; clear n0_ n1_ n2_; (try clear hb); (try clear hb2); (try clear hk); (try clear hi)))
      have n0_ := Aside0.mk (blk_drew BK303.out)
      have n1_ := Aside0.mk (blk_drew BK304.out)
      have n2_ := Aside0.mk (below_drew1 HB.out)
      clear BK303 BK304 HB
      have BK303 := n0_
      have BK304 := n1_
      have HB := n2_
      clear n0_ n1_ n2_
      refine start_ (n := 6) (S := fun w' => w'.cell? ⟨gb303, 0, none⟩ = some (.int .i64 a0_0) ∧ w'.cell? ⟨gb303, 1, none⟩ = some (.slice A0_1 l0_1.length c0_1) ∧ w'.cell? ⟨gb303, 2, none⟩ = some (.slice A0_2 l0_2.length c0_2) ∧ w'.cell? ⟨gb304, 0, none⟩ = some (.slice A1_0 l1_0.length c1_0)) (ds := []) bq_0 (by kernel_rfl) rfl rfl ⟨(blk_cell BK303.out 0).trans rfl, (blk_cell BK303.out 1).trans rfl, (blk_cell BK303.out 2).trans rfl, (blk_cell BK304.out 0).trans rfl⟩ (fun hHeld => ?_)
      generalize w111.drew = w112 at BK303 BK304 HB hHeld ⊢
      refine take_ (i := 0) (N := some 20) (v := ?_) (a' := ?_) bq_62 rfl rfl (by kernel_rfl) (fun _ _ _ h => h) (Or.inl ⟨by rfl, ?_⟩) hHeld ?_ ?_
      rotate_left
      ·rintro w' ⟨s0, s1, s2, s3⟩
       go_simp
       with_reducible rfl
      rotate_left
      ·simp only [Act.put, List.setIfInBounds_toArray, List.set_cons_zero, List.set_cons_succ, i64_w, i32_w]
       rfl
      refine take_ (i := 2) (N := some 22) (v := ?_) (a' := ?_) bq_1 rfl rfl (by kernel_rfl) (fun _ _ _ h => h) (Or.inl ⟨by rfl, ?_⟩) hHeld ?_ ?_
      rotate_left
      ·rintro w' ⟨s0, s1, s2, s3⟩
       go_simp
       with_reducible rfl
      rotate_left
      ·simp only [Act.put, List.setIfInBounds_toArray, List.set_cons_zero, List.set_cons_succ, i64_w, i32_w]
       rfl
      refine one_ (i := 1) (N := some 21) bq_2 rfl rfl (by kernel_rfl) (by decide) (fun K hK => ?_)
      refine goes_ Try.func55 (by kernel_rfl) rfl #[.agg #[.int .i64 a0_0, .slice A0_1 l0_1.length c0_1, .slice A0_2 l0_2.length c0_2]] (by rfl) rfl rfl tq_1 ?_
      with_reducible refine (laws_toPart.calls k a0_0 _ _ l0_1 _ _ l0_2 t307 t308 t311 _ ?side1 ?side2 ?side3 ?side4 A19.out).mono ?_
      (case side1 => exact tq_6)
      (case side2 => exact HC0_1.out)
      (case side3 => exact tq_7)
      (case side4 => exact HC0_2.out)
      rintro e w113 ⟨v309, v312, rfl, ho0, ho1, hb⟩
      refine ⟨_, rfl, ?_⟩
      have n0_ := Aside0.mk (Kd.R_lower ho0 (below_size tq_2))
      have n1_ := Aside0.mk (Kd.S_lower ho1 (below_size tq_2))
      have n2_ := Aside0.mk (blk_below tq_3 hb)
      have n3_ := Aside0.mk (blk_below tq_5 hb)
      have n4_ := Aside0.mk (below_step tq_2 hb)
      clear BK303 BK304 HB
      have HO310 := n0_
      have HO313 := n1_
      have BK303 := n2_
      have BK304 := n3_
      have HB := n4_
      clear n0_ n1_ n2_ n3_ n4_
      (try clear hb)
      (try clear hb2)
      (try clear hk)
      (try clear hi)
      (try clear ho0)
      (try clear ho1)
      refine hK.out _ _ ⟨(blk_cell BK303.out 0).trans rfl, (blk_cell BK303.out 1).trans rfl, (blk_cell BK303.out 2).trans rfl, (blk_cell BK304.out 0).trans rfl⟩ (fun hHeld => ?_)
      clear hK K
      refine norm_ (a' := ?_) ?_ ?_
      rotate_left
      ·show Act.put _ (some 21) _ = _
       simp only [Act.put, List.setIfInBounds_toArray, List.set_cons_zero, List.set_cons_succ, i64_w, i32_w]
       rfl
      refine one_ (i := 3) (N := some 23) bq_3 rfl rfl (by kernel_rfl) (by decide) (fun K hK => ?_)
      refine goes_ Try.func17 (by kernel_rfl) rfl #[.agg #[.slice A1_0 l1_0.length c1_0]] (by rfl) rfl rfl tq_1 ?_
      with_reducible refine (laws_toView.calls k _ _ l1_0 t314 _ ?side1 ?side2 A20.out).mono ?_
      (case side1 => exact tq_14)
      (case side2 => exact HC1_0.out)
      rintro e w114 ⟨v315, rfl, ho0, hb⟩
      refine ⟨_, rfl, ?_⟩
      have n0_ := Aside0.mk (Kd.R_below tq_13 hb)
      have n1_ := Aside0.mk (Kd.S_below tq_12 hb)
      have n2_ := Aside0.mk (Kd.R_lower ho0 (below_size tq_2))
      have n3_ := Aside0.mk (blk_below tq_3 hb)
      have n4_ := Aside0.mk (blk_below tq_5 hb)
      have n5_ := Aside0.mk (below_step tq_2 hb)
      clear HO310 HO313 BK303 BK304 HB
      have HO310 := n0_
      have HO313 := n1_
      have HO316 := n2_
      have BK303 := n3_
      have BK304 := n4_
      have HB := n5_
      clear n0_ n1_ n2_ n3_ n4_ n5_
      (try clear hb)
      (try clear hb2)
      (try clear hk)
      (try clear hi)
      (try clear ho0)
      obtain ⟨Ao115, co115, eo115⟩ := Kd.R_slice HO310.out
      (first | subst eo115 | (injection eo115 with f1_ f2_ f3_; have f4_ := f1_.symm; have f5_ := f3_.symm; clear f1_ f2_ f3_; subst f4_; subst f5_))
      obtain ⟨Ao116, co116, eo116⟩ := Kd.S_slice HO313.out
      (first | subst eo116 | (injection eo116 with f1_ f2_ f3_; have f4_ := f1_.symm; have f5_ := f3_.symm; clear f1_ f2_ f3_; subst f4_; subst f5_))
      obtain ⟨Ao117, co117, eo117⟩ := Kd.R_slice HO316.out
      (first | subst eo117 | (injection eo117 with f1_ f2_ f3_; have f4_ := f1_.symm; have f5_ := f3_.symm; clear f1_ f2_ f3_; subst f4_; subst f5_))
      refine hK.out _ _ ⟨(blk_cell BK303.out 0).trans rfl, (blk_cell BK303.out 1).trans rfl, (blk_cell BK303.out 2).trans rfl, (blk_cell BK304.out 0).trans rfl⟩ (fun hHeld => ?_)
      clear hK K
      refine norm_ (a' := ?_) ?_ ?_
      rotate_left
      ·show Act.put _ (some 23) _ = _
       simp only [Act.put, List.setIfInBounds_toArray, List.set_cons_zero, List.set_cons_succ, i64_w, i32_w]
       rfl
      refine one_ (i := 4) (N := some 24) bq_4 rfl rfl (by kernel_rfl) (by decide) (fun K hK => ?_)
      refine goes_ Try.func54 (by kernel_rfl) rfl #[.agg #[.int .i64 t307, .slice Ao115 t308.length co115, .slice Ao116 t311.length co116], .agg #[.slice Ao117 t314.length co117]] (by rfl) rfl rfl tq_1 ?_
      with_reducible refine (spec_Fits.calls k t307 _ _ t308 _ _ t311 _ _ t314 t317 _ ?side1 ?side2 ?side3 ?side4 ?side5 ?side6 A21.out).mono ?_
      (case side1 => exact tq_76)
      (case side2 => exact (Kd.R_reads' HO310.out).2.1)
      (case side3 => exact tq_74)
      (case side4 => exact (Kd.S_reads' HO313.out).2.1)
      (case side5 => exact tq_75)
      (case side6 => exact (Kd.R_reads' HO316.out).2.1)
      rintro e w118 ⟨rfl, hb⟩
      refine ⟨_, rfl, ?_⟩
      have n0_ := Aside0.mk (Kd.R_below tq_13 hb)
      have n1_ := Aside0.mk (Kd.S_below tq_12 hb)
      have n2_ := Aside0.mk (Kd.R_below tq_23 hb)
      have n3_ := Aside0.mk (blk_below tq_3 hb)
      have n4_ := Aside0.mk (blk_below tq_5 hb)
      have n5_ := Aside0.mk (below_step tq_2 hb)
      clear HO310 HO313 HO316 BK303 BK304 HB
      have HO310 := n0_
      have HO313 := n1_
      have HO316 := n2_
      have BK303 := n3_
      have BK304 := n4_
      have HB := n5_
      clear n0_ n1_ n2_ n3_ n4_ n5_
      (try clear hb)
      (try clear hb2)
      (try clear hk)
      (try clear hi)
      refine hK.out _ _ ⟨(blk_cell BK303.out 0).trans rfl, (blk_cell BK303.out 1).trans rfl, (blk_cell BK303.out 2).trans rfl, (blk_cell BK304.out 0).trans rfl⟩ (fun hHeld => ?_)
      clear hK K
      refine norm_ (a' := ?_) ?_ ?_
      rotate_left
      ·show Act.put _ (some 24) _ = _
       simp only [Act.put, List.setIfInBounds_toArray, List.set_cons_zero, List.set_cons_succ, i64_w, i32_w]
       rfl
      refine yq_ (i := 5) (N := some 6) bq_5 (by kernel_rfl) ?_
      refine done_ (by kernel_rfl) ?_
      have hcz119_0 := bc_ BK303.out 0
      have hcz119_1 := bc_ BK303.out 1
      have hcz119_2 := bc_ BK303.out 2
      have hfz119_0 := blk_frozen BK303.out 0
      have hfz119_1 := blk_frozen BK303.out 1
      have hfz119_2 := blk_frozen BK303.out 2
      try go_wp2_with (first | ((with_reducible refine gate_callee (f := 55) rfl ?_); refine goesL_ (some 26) rfl rfl Try.func55 (by kernel_rfl) rfl #[.agg #[.int .i64 a0_0, .slice A0_1 l0_1.length c0_1, .slice A0_2 l0_2.length c0_2]] rfl tq_1 ?_; (with_reducible refine (laws_toPart.calls k a0_0 _ _ l0_1 _ _ l0_2 t318 t319 t322 _ ?side1 ?side2 ?side3 ?side4 A22.out).mono ?_); (case side1 => exact tq_6); (case side2 => exact HC0_1.out); (case side3 => exact tq_7); (case side4 => exact HC0_2.out); rintro e w120 ⟨v320, v323, rfl, ho0, ho1, hb⟩; refine ⟨_, rfl, ?_⟩; have n0_ := Aside0.mk (Kd.R_elder' tq_13 (Kd.R_base ho0) hb); have n1_ := Aside0.mk (Kd.S_elder' tq_12 (Kd.S_base ho1) hb); have n2_ := Aside0.mk (Kd.R_below tq_23 hb); have n3_ := Aside0.mk (Kd.R_lower (Kd.R_new' ho0 (Kd.R_lt tq_13)) (below_size tq_2)); have n4_ := Aside0.mk (Kd.S_lower (Kd.S_new' ho1 (Kd.S_lt tq_12)) (below_size tq_2)); have n5_ := Aside0.mk (blk_below tq_3 hb); have n6_ := Aside0.mk (blk_below tq_5 hb); have n7_ := Aside0.mk (below_step tq_2 hb); clear HO310 HO313 HO316 BK303 BK304 HB; have HO310 := n0_; have HO313 := n1_; have HO316 := n2_; have HO321 := n3_; have HO324 := n4_; have BK303 := n5_; have BK304 := n6_; have HB := n7_; clear n0_ n1_ n2_ n3_ n4_ n5_ n6_ n7_; (try clear hb); (try clear hb2); (try clear hk); (try clear hi); (try clear ho0); (try clear ho1)) | ((with_reducible refine gate_dst (N := 7) rfl ?_); refine box_event ?hg (N := 7) ?hd (cs := #[.int .i64 0, .slice none 0 0, .slice none 0 0]) (t := 69) ?hr ?_; (case hd => rfl); (case hg => rfl); (case hr => first | (go_simp; done) | (go_simp; rfl)); intro gb325 hg w121 hbox hb; have n0_ := Aside0.mk (Kd.R_below tq_13 hb); have n1_ := Aside0.mk (Kd.S_below tq_12 hb); have n2_ := Aside0.mk (Kd.R_below tq_23 hb); have n3_ := Aside0.mk (Kd.R_below tq_26 hb); have n4_ := Aside0.mk (Kd.S_below tq_25 hb); have n5_ := Aside0.mk (blk_below tq_3 hb); have n6_ := Aside0.mk (blk_below tq_5 hb); have n7_ := Aside0.mk (below_step tq_2 hb); have n8_ := Aside0.mk (hbox); have n9_ := Aside0.mk (gb_ hg tq_2); have n10_ := Aside0.mk (gb_ hg tq_2); have n11_ := Aside0.mk (ltne_ hg (blk_lt tq_3)); have n12_ := Aside0.mk (gtne_ hg (blk_lt tq_3)); have n13_ := Aside0.mk (ltne_ hg (blk_lt tq_5)); have n14_ := Aside0.mk (gtne_ hg (blk_lt tq_5)); clear HO310 HO313 HO316 HO321 HO324 BK303 BK304 HB; have HO310 := n0_; have HO313 := n1_; have HO316 := n2_; have HO321 := n3_; have HO324 := n4_; have BK303 := n5_; have BK304 := n6_; have HB := n7_; have BK325 := n8_; have GW325 := n9_; have GE325 := n10_; have NB303_325 := n11_; have NB325_303 := n12_; have NB304_325 := n13_; have NB325_304 := n14_; clear n0_ n1_ n2_ n3_ n4_ n5_ n6_ n7_ n8_ n9_ n10_ n11_ n12_ n13_ n14_; clear hb hbox hg; have hnb122 := NB325_303.out; have hnc122 := NB303_325.out; have hnb123 := NB325_304.out; have hnc123 := NB304_325.out; have hcz124_0 := bc_ BK325.out 0; have hcz124_1 := bc_ BK325.out 1; have hcz124_2 := bc_ BK325.out 2; have hfz124_0 := blk_frozen BK325.out 0; have hfz124_1 := blk_frozen BK325.out 1; have hfz124_2 := blk_frozen BK325.out 2; obtain ⟨Ao125, co125, eo125⟩ := Kd.R_slice HO321.out; subst eo125; obtain ⟨Ao126, co126, eo126⟩ := Kd.S_slice HO324.out; subst eo126; have hcz127_0 := bc_ BK304.out 0; have hfz127_0 := blk_frozen BK304.out 0) | ((with_reducible refine gate_callee (f := 17) rfl ?_); refine goesL_ (some 28) rfl rfl Try.func17 (by kernel_rfl) rfl #[.agg #[.slice A1_0 l1_0.length c1_0]] rfl tq_1 ?_; (with_reducible refine (laws_toView.calls k _ _ l1_0 t326 _ ?side1 ?side2 A23.out).mono ?_); (case side1 => exact Kd.C_below HR1_0.out tq_9); (case side2 => exact HC1_0.out); rintro e w128 ⟨v327, rfl, ho0, hb⟩; refine ⟨_, rfl, ?_⟩; have n0_ := Aside0.mk (Kd.R_below (by (with_reducible repeat (first | apply Kd.R_alloc | apply Kd.R_drewN | apply Kd.R_drew)); exact (Kd.R_mono (Kd.R_far (p := ⟨gb325, 2, none⟩) (Kd.R_far (p := ⟨gb325, 1, none⟩) (Kd.R_far (p := ⟨gb325, 0, none⟩) (Kd.R_types HO310.out BK325.out (by decide)) (fun _ hk => hk.2) (.int .i64 t318)) (fun _ hk => hk.2) (.slice Ao125 t319.length co125)) (fun _ hk => hk.2) (.slice Ao126 t322.length co126)) (fun _ h_ => h_.1))) hb); have n1_ := Aside0.mk (Kd.S_below (by (with_reducible repeat (first | apply Kd.S_alloc | apply Kd.S_drewN | apply Kd.S_drew)); exact (Kd.S_mono (Kd.S_far (p := ⟨gb325, 2, none⟩) (Kd.S_far (p := ⟨gb325, 1, none⟩) (Kd.S_far (p := ⟨gb325, 0, none⟩) (Kd.S_types HO313.out BK325.out (by decide)) (fun _ hk => hk.2) (.int .i64 t318)) (fun _ hk => hk.2) (.slice Ao125 t319.length co125)) (fun _ hk => hk.2) (.slice Ao126 t322.length co126)) (fun _ h_ => h_.1))) hb); have n2_ := Aside0.mk (Kd.R_elder' tq_81 (Kd.R_base ho0) hb); have n3_ := Aside0.mk (Kd.R_below (by (with_reducible repeat (first | apply Kd.R_alloc | apply Kd.R_drewN | apply Kd.R_drew)); exact (Kd.R_mono (Kd.R_far (p := ⟨gb325, 2, none⟩) (Kd.R_far (p := ⟨gb325, 1, none⟩) (Kd.R_far (p := ⟨gb325, 0, none⟩) (Kd.R_types HO321.out BK325.out (by decide)) (fun _ hk => hk.2) (.int .i64 t318)) (fun _ hk => hk.2) (.slice Ao125 t319.length co125)) (fun _ hk => hk.2) (.slice Ao126 t322.length co126)) (fun _ h_ => h_.1))) hb); have n4_ := Aside0.mk (Kd.S_below (by (with_reducible repeat (first | apply Kd.S_alloc | apply Kd.S_drewN | apply Kd.S_drew)); exact (Kd.S_mono (Kd.S_far (p := ⟨gb325, 2, none⟩) (Kd.S_far (p := ⟨gb325, 1, none⟩) (Kd.S_far (p := ⟨gb325, 0, none⟩) (Kd.S_types HO324.out BK325.out (by decide)) (fun _ hk => hk.2) (.int .i64 t318)) (fun _ hk => hk.2) (.slice Ao125 t319.length co125)) (fun _ hk => hk.2) (.slice Ao126 t322.length co126)) (fun _ h_ => h_.1))) hb); have n5_ := Aside0.mk (Kd.R_lower (Kd.R_new' ho0 (Kd.R_lt tq_81)) (below_size tq_9)); have n6_ := Aside0.mk (blk_below (g := gb303) (o := .cells #[.int .i64 a0_0, .slice A0_1 l0_1.length c0_1, .slice A0_2 l0_2.length c0_2] 86 (0, 0)) tq_35 hb); have n7_ := Aside0.mk (blk_below (g := gb304) (o := .cells #[.slice A1_0 l1_0.length c1_0] 24 (0, 0)) tq_34 hb); have n8_ := Aside0.mk (blk_below (g := gb325) (o := .cells #[.int .i64 t318, .slice Ao125 t319.length co125, .slice Ao126 t322.length co126] 69 (0, 0)) (by (with_reducible repeat (first | refine blk_drewN ?_ _ | refine blk_drew ?_ | refine blk_alloc ?_ _)); refine blk_put (cs := #[.int .i64 t318, .slice Ao125 t319.length co125, .slice none 0 0]) ?_ 2 _ rfl; (with_reducible repeat (first | refine blk_drewN ?_ _ | refine blk_drew ?_ | refine blk_alloc ?_ _)); refine blk_put (cs := #[.int .i64 t318, .slice none 0 0, .slice none 0 0]) ?_ 1 _ rfl; (with_reducible repeat (first | refine blk_drewN ?_ _ | refine blk_drew ?_ | refine blk_alloc ?_ _)); refine blk_put (cs := #[.int .i64 0, .slice none 0 0, .slice none 0 0]) ?_ 0 _ rfl; (with_reducible repeat (first | refine blk_drewN ?_ _ | refine blk_drew ?_ | refine blk_alloc ?_ _)); exact BK325.out) hb); have n9_ := Aside0.mk (below_step tq_9 hb); clear HO310 HO313 HO316 HO321 HO324 BK303 BK304 BK325 HB; have HO310 := n0_; have HO313 := n1_; have HO316 := n2_; have HO321 := n3_; have HO324 := n4_; have HO328 := n5_; have BK303 := n6_; have BK304 := n7_; have BK325 := n8_; have HB := n9_; clear n0_ n1_ n2_ n3_ n4_ n5_ n6_ n7_ n8_ n9_; (try clear hb); (try clear hb2); (try clear hk); (try clear hi); (try clear ho0)) | ((with_reducible refine gate_dst (N := 8) rfl ?_); refine box_event ?hg (N := 8) ?hd (cs := #[.slice none 0 0]) (t := 28) ?hr ?_; (case hd => rfl); (case hg => rfl); (case hr => first | (go_simp; done) | (go_simp; rfl)); intro gb329 hg w129 hbox hb; have n0_ := Aside0.mk (Kd.R_below tq_13 hb); have n1_ := Aside0.mk (Kd.S_below tq_12 hb); have n2_ := Aside0.mk (Kd.R_below tq_23 hb); have n3_ := Aside0.mk (Kd.R_below tq_26 hb); have n4_ := Aside0.mk (Kd.S_below tq_25 hb); have n5_ := Aside0.mk (Kd.R_below tq_36 hb); have n6_ := Aside0.mk (blk_below tq_3 hb); have n7_ := Aside0.mk (blk_below tq_5 hb); have n8_ := Aside0.mk (blk_below tq_24 hb); have n9_ := Aside0.mk (below_step tq_9 hb); have n10_ := Aside0.mk (hbox); have n11_ := Aside0.mk (gb_ hg tq_9); have n12_ := Aside0.mk (gb_ hg tq_9); have n13_ := Aside0.mk (ltne_ hg (blk_lt tq_3)); have n14_ := Aside0.mk (gtne_ hg (blk_lt tq_3)); have n15_ := Aside0.mk (ltne_ hg (blk_lt tq_5)); have n16_ := Aside0.mk (gtne_ hg (blk_lt tq_5)); have n17_ := Aside0.mk (ltne_ hg (blk_lt tq_24)); have n18_ := Aside0.mk (gtne_ hg (blk_lt tq_24)); clear HO310 HO313 HO316 HO321 HO324 HO328 BK303 BK304 BK325 HB; have HO310 := n0_; have HO313 := n1_; have HO316 := n2_; have HO321 := n3_; have HO324 := n4_; have HO328 := n5_; have BK303 := n6_; have BK304 := n7_; have BK325 := n8_; have HB := n9_; have BK329 := n10_; have GW329 := n11_; have GE329 := n12_; have NB303_329 := n13_; have NB329_303 := n14_; have NB304_329 := n15_; have NB329_304 := n16_; have NB325_329 := n17_; have NB329_325 := n18_; clear n0_ n1_ n2_ n3_ n4_ n5_ n6_ n7_ n8_ n9_ n10_ n11_ n12_ n13_ n14_ n15_ n16_ n17_ n18_; clear hb hbox hg; obtain ⟨Ao130, co130, eo130⟩ := Kd.R_slice HO328.out; subst eo130; have hnb131 := NB329_303.out; have hnc131 := NB303_329.out; have hnb132 := NB329_304.out; have hnc132 := NB304_329.out; have hnb133 := NB329_325.out; have hnc133 := NB325_329.out; have hcz134_0 := bc_ BK329.out 0; have hfz134_0 := blk_frozen BK329.out 0; have hcz135_0 := bc_ BK325.out 0; have hcz135_1 := bc_ BK325.out 1; have hcz135_2 := bc_ BK325.out 2; have hfz135_0 := blk_frozen BK325.out 0; have hfz135_1 := blk_frozen BK325.out 1; have hfz135_2 := blk_frozen BK325.out 2) | ((with_reducible refine gate_callee (f := 56) rfl ?_); refine goesL_ (some 31) rfl rfl Try.func56 (by kernel_rfl) rfl #[.agg #[.int .i64 t318, .slice Ao125 t319.length co125, .slice Ao126 t322.length co126], .agg #[.slice Ao130 t326.length co130]] rfl tq_1 ?_; (with_reducible refine (impl_Fits.calls k t318 _ _ t319 _ _ t322 _ _ t326 t330 _ ?side1 ?side2 ?side3 ?side4 ?side5 ?side6 A24.out).mono ?_); (case side1 => refine (Kd.R_reads' (e := 3) (base := w.heap.size) (ok := fun k_ => (True ∧ some k_ ≠ (.slice Ao115 t308.length co115 : Value).ownBlock)) (n := t319.length) (c := co125) ?_).2.2; exact tq_116); (case side2 => exact (Kd.R_reads' HO321.out).2.1); (case side3 => refine (Kd.S_reads' (e := 49) (base := w.heap.size) (ok := fun k_ => (True ∧ some k_ ≠ (.slice Ao116 t311.length co116 : Value).ownBlock)) (n := t322.length) (c := co126) ?_).2.2; exact tq_112); (case side4 => exact (Kd.S_reads' HO324.out).2.1); (case side5 => refine (Kd.R_reads' (e := 38) (base := w.heap.size) (ok := fun k_ => (True ∧ some k_ ≠ (.slice Ao117 t314.length co117 : Value).ownBlock)) (n := t326.length) (c := co130) ?_).2.2; exact tq_114); (case side6 => exact (Kd.R_reads' HO328.out).2.1); rintro e w136 ⟨rfl, hb⟩; refine ⟨_, rfl, ?_⟩; have n0_ := Aside0.mk (Kd.R_below (by (with_reducible repeat (first | apply Kd.R_alloc | apply Kd.R_drewN | apply Kd.R_drew)); exact (Kd.R_mono (Kd.R_far (p := ⟨gb329, 0, none⟩) (Kd.R_types HO310.out BK329.out (by decide)) (fun _ hk => hk.2) (.slice Ao130 t326.length co130)) (fun _ h_ => h_.1))) hb); have n1_ := Aside0.mk (Kd.S_below (by (with_reducible repeat (first | apply Kd.S_alloc | apply Kd.S_drewN | apply Kd.S_drew)); exact (Kd.S_mono (Kd.S_far (p := ⟨gb329, 0, none⟩) (Kd.S_types HO313.out BK329.out (by decide)) (fun _ hk => hk.2) (.slice Ao130 t326.length co130)) (fun _ h_ => h_.1))) hb); have n2_ := Aside0.mk (Kd.R_below (by (with_reducible repeat (first | apply Kd.R_alloc | apply Kd.R_drewN | apply Kd.R_drew)); exact (Kd.R_mono (Kd.R_far (p := ⟨gb329, 0, none⟩) (Kd.R_types HO316.out BK329.out (by decide)) (fun _ hk => hk.2) (.slice Ao130 t326.length co130)) (fun _ h_ => h_.1))) hb); have n3_ := Aside0.mk (Kd.R_below tq_116 hb); have n4_ := Aside0.mk (Kd.S_below tq_112 hb); have n5_ := Aside0.mk (Kd.R_below tq_114 hb); have n6_ := Aside0.mk (blk_below (g := gb303) (o := .cells #[.int .i64 a0_0, .slice A0_1 l0_1.length c0_1, .slice A0_2 l0_2.length c0_2] 86 (0, 0)) tq_60 hb); have n7_ := Aside0.mk (blk_below (g := gb304) (o := .cells #[.slice A1_0 l1_0.length c1_0] 24 (0, 0)) tq_59 hb); have n8_ := Aside0.mk (blk_below (g := gb325) (o := .cells #[.int .i64 t318, .slice Ao125 t319.length co125, .slice Ao126 t322.length co126] 69 (0, 0)) tq_58 hb); have n9_ := Aside0.mk (blk_below (g := gb329) (o := .cells #[.slice Ao130 t326.length co130] 28 (0, 0)) tq_52 hb); have n10_ := Aside0.mk (below_step tq_8 hb); clear HO310 HO313 HO316 HO321 HO324 HO328 BK303 BK304 BK325 BK329 HB; have HO310 := n0_; have HO313 := n1_; have HO316 := n2_; have HO321 := n3_; have HO324 := n4_; have HO328 := n5_; have BK303 := n6_; have BK304 := n7_; have BK325 := n8_; have BK329 := n9_; have HB := n10_; clear n0_ n1_ n2_ n3_ n4_ n5_ n6_ n7_ n8_ n9_ n10_; (try clear hb); (try clear hb2); (try clear hk); (try clear hi)))
      have n0_ := Aside0.mk (Kd.R_drew HO310.out)
      have n1_ := Aside0.mk (Kd.S_drew HO313.out)
      have n2_ := Aside0.mk (Kd.R_drew HO316.out)
      have n3_ := Aside0.mk (Kd.R_drew HO321.out)
      have n4_ := Aside0.mk (Kd.S_drew HO324.out)
      have n5_ := Aside0.mk (Kd.R_drew HO328.out)
      have n6_ := Aside0.mk (blk_drew BK303.out)
      have n7_ := Aside0.mk (blk_drew BK304.out)
      have n8_ := Aside0.mk (blk_drew BK325.out)
      have n9_ := Aside0.mk (blk_drew BK329.out)
      have n10_ := Aside0.mk (below_drew1 HB.out)
      clear HO310 HO313 HO316 HO321 HO324 HO328 BK303 BK304 BK325 BK329 HB
      have HO310 := n0_
      have HO313 := n1_
      have HO316 := n2_
      have HO321 := n3_
      have HO324 := n4_
      have HO328 := n5_
      have BK303 := n6_
      have BK304 := n7_
      have BK325 := n8_
      have BK329 := n9_
      have HB := n10_
      clear n0_ n1_ n2_ n3_ n4_ n5_ n6_ n7_ n8_ n9_ n10_
      refine start_ (n := 5) (S := fun w' => w'.cell? ⟨gb325, 0, none⟩ = some (.int .i64 t318) ∧ w'.cell? ⟨gb325, 1, none⟩ = some (.slice Ao125 t319.length co125) ∧ w'.cell? ⟨gb325, 2, none⟩ = some (.slice Ao126 t322.length co126) ∧ w'.cell? ⟨gb303, 0, none⟩ = some (.int .i64 a0_0) ∧ w'.cell? ⟨gb303, 1, none⟩ = some (.slice A0_1 l0_1.length c0_1) ∧ w'.cell? ⟨gb303, 2, none⟩ = some (.slice A0_2 l0_2.length c0_2)) (ds := []) bq_50 (by kernel_rfl) rfl rfl ⟨(blk_cell BK325.out 0).trans rfl, (blk_cell BK325.out 1).trans rfl, (blk_cell BK325.out 2).trans rfl, (blk_cell BK303.out 0).trans rfl, (blk_cell BK303.out 1).trans rfl, (blk_cell BK303.out 2).trans rfl⟩ (fun hHeld => ?_)
      generalize w136.drew = w137 at HO310 HO313 HO316 HO321 HO324 HO328 BK303 BK304 BK325 BK329 HB hHeld ⊢
      refine take_ (i := 0) (N := some 35) (v := ?_) (a' := ?_) bq_51 rfl rfl (by kernel_rfl) (fun _ _ _ h => h) (Or.inl ⟨by rfl, ?_⟩) hHeld ?_ ?_
      rotate_left
      ·rintro w' ⟨s0, s1, s2, s3, s4, s5⟩
       go_simp
       with_reducible rfl
      rotate_left
      ·simp only [Act.put, List.setIfInBounds_toArray, List.set_cons_zero, List.set_cons_succ, i64_w, i32_w]
       rfl
      refine take_ (i := 1) (N := some 36) (v := ?_) (a' := ?_) bq_52 rfl rfl (by kernel_rfl) (fun _ _ _ h => h) (Or.inl ⟨by rfl, ?_⟩) hHeld ?_ ?_
      rotate_left
      ·rintro w' ⟨s0, s1, s2, s3, s4, s5⟩
       go_simp
       with_reducible rfl
      rotate_left
      ·simp only [Act.put, List.setIfInBounds_toArray, List.set_cons_zero, List.set_cons_succ, i64_w, i32_w]
       rfl
      refine one_ (i := 2) (N := some 37) bq_53 rfl rfl (by kernel_rfl) (by decide) (fun K hK => ?_)
      refine goes_ Try.func55 (by kernel_rfl) rfl #[.agg #[.int .i64 a0_0, .slice A0_1 l0_1.length c0_1, .slice A0_2 l0_2.length c0_2]] (by rfl) rfl rfl tq_1 ?_
      with_reducible refine (laws_toPart.calls k a0_0 _ _ l0_1 _ _ l0_2 t331 t332 t335 _ ?side1 ?side2 ?side3 ?side4 A58.out).mono ?_
      (case side1 => exact tq_6)
      (case side2 => exact HC0_1.out)
      (case side3 => exact tq_7)
      (case side4 => exact HC0_2.out)
      rintro e w138 ⟨v333, v336, rfl, ho0, ho1, hb⟩
      refine ⟨_, rfl, ?_⟩
      have n0_ := Aside0.mk (Kd.R_elder' tq_13 (Kd.R_base ho0) hb)
      have n1_ := Aside0.mk (Kd.S_elder' tq_12 (Kd.S_base ho1) hb)
      have n2_ := Aside0.mk (Kd.R_below tq_23 hb)
      have n3_ := Aside0.mk (Kd.R_elder' tq_26 (Kd.R_base ho0) hb)
      have n4_ := Aside0.mk (Kd.S_elder' tq_25 (Kd.S_base ho1) hb)
      have n5_ := Aside0.mk (Kd.R_below tq_36 hb)
      have n6_ := Aside0.mk (Kd.R_lower (Kd.R_new' (Kd.R_new' ho0 (Kd.R_lt tq_13)) (Kd.R_lt tq_26)) (below_size tq_8))
      have n7_ := Aside0.mk (Kd.S_lower (Kd.S_new' (Kd.S_new' ho1 (Kd.S_lt tq_12)) (Kd.S_lt tq_25)) (below_size tq_8))
      have n8_ := Aside0.mk (blk_below tq_3 hb)
      have n9_ := Aside0.mk (blk_below tq_5 hb)
      have n10_ := Aside0.mk (blk_below tq_24 hb)
      have n11_ := Aside0.mk (blk_below tq_45 hb)
      have n12_ := Aside0.mk (below_step tq_8 hb)
      clear HO310 HO313 HO316 HO321 HO324 HO328 BK303 BK304 BK325 BK329 HB
      have HO310 := n0_
      have HO313 := n1_
      have HO316 := n2_
      have HO321 := n3_
      have HO324 := n4_
      have HO328 := n5_
      have HO334 := n6_
      have HO337 := n7_
      have BK303 := n8_
      have BK304 := n9_
      have BK325 := n10_
      have BK329 := n11_
      have HB := n12_
      clear n0_ n1_ n2_ n3_ n4_ n5_ n6_ n7_ n8_ n9_ n10_ n11_ n12_
      (try clear hb)
      (try clear hb2)
      (try clear hk)
      (try clear hi)
      (try clear ho0)
      (try clear ho1)
      obtain ⟨Ao139, co139, eo139⟩ := Kd.R_slice HO334.out
      (first | subst eo139 | (injection eo139 with f1_ f2_ f3_; have f4_ := f1_.symm; have f5_ := f3_.symm; clear f1_ f2_ f3_; subst f4_; subst f5_))
      obtain ⟨Ao140, co140, eo140⟩ := Kd.S_slice HO337.out
      (first | subst eo140 | (injection eo140 with f1_ f2_ f3_; have f4_ := f1_.symm; have f5_ := f3_.symm; clear f1_ f2_ f3_; subst f4_; subst f5_))
      refine hK.out _ _ ⟨(blk_cell BK325.out 0).trans rfl, (blk_cell BK325.out 1).trans rfl, (blk_cell BK325.out 2).trans rfl, (blk_cell BK303.out 0).trans rfl, (blk_cell BK303.out 1).trans rfl, (blk_cell BK303.out 2).trans rfl⟩ (fun hHeld => ?_)
      clear hK K
      refine norm_ (a' := ?_) ?_ ?_
      rotate_left
      ·show Act.put _ (some 37) _ = _
       simp only [Act.put, List.setIfInBounds_toArray, List.set_cons_zero, List.set_cons_succ, i64_w, i32_w]
       rfl
      refine one_ (i := 3) (N := some 38) bq_54 rfl rfl (by kernel_rfl) (by decide) (fun K hK => ?_)
      refine goes_ Try.func50 (by kernel_rfl) rfl #[.agg #[.int .i64 t318, .slice Ao125 t319.length co125, .slice Ao126 t322.length co126], .agg #[.int .i64 t331, .slice Ao139 t332.length co139, .slice Ao140 t335.length co140]] (by rfl) rfl rfl tq_1 ?_
      with_reducible refine (laws_eqPart.calls k t318 _ _ t319 _ _ t322 t331 _ _ t332 _ _ t335 true _ ?side1 ?side2 ?side3 ?side4 ?side5 ?side6 ?side7 ?side8 A59.out).mono ?_
      (case side1 => exact tq_109)
      (case side2 => exact (Kd.R_reads' HO321.out).2.1)
      (case side3 => exact tq_107)
      (case side4 => exact (Kd.S_reads' HO324.out).2.1)
      (case side5 => exact tq_108)
      (case side6 => exact (Kd.R_reads' HO334.out).2.1)
      (case side7 => exact tq_106)
      (case side8 => exact (Kd.S_reads' HO337.out).2.1)
      rintro e w141 ⟨rfl, hb⟩
      refine ⟨_, rfl, ?_⟩
      have n0_ := Aside0.mk (Kd.R_below tq_13 hb)
      have n1_ := Aside0.mk (Kd.S_below tq_12 hb)
      have n2_ := Aside0.mk (Kd.R_below tq_23 hb)
      have n3_ := Aside0.mk (Kd.R_below tq_26 hb)
      have n4_ := Aside0.mk (Kd.S_below tq_25 hb)
      have n5_ := Aside0.mk (Kd.R_below tq_36 hb)
      have n6_ := Aside0.mk (Kd.R_below tq_64 hb)
      have n7_ := Aside0.mk (Kd.S_below tq_63 hb)
      have n8_ := Aside0.mk (blk_below tq_3 hb)
      have n9_ := Aside0.mk (blk_below tq_5 hb)
      have n10_ := Aside0.mk (blk_below tq_24 hb)
      have n11_ := Aside0.mk (blk_below tq_45 hb)
      have n12_ := Aside0.mk (below_step tq_8 hb)
      clear HO310 HO313 HO316 HO321 HO324 HO328 HO334 HO337 BK303 BK304 BK325 BK329 HB
      have HO310 := n0_
      have HO313 := n1_
      have HO316 := n2_
      have HO321 := n3_
      have HO324 := n4_
      have HO328 := n5_
      have HO334 := n6_
      have HO337 := n7_
      have BK303 := n8_
      have BK304 := n9_
      have BK325 := n10_
      have BK329 := n11_
      have HB := n12_
      clear n0_ n1_ n2_ n3_ n4_ n5_ n6_ n7_ n8_ n9_ n10_ n11_ n12_
      (try clear hb)
      (try clear hb2)
      (try clear hk)
      (try clear hi)
      refine hK.out _ _ ⟨(blk_cell BK325.out 0).trans rfl, (blk_cell BK325.out 1).trans rfl, (blk_cell BK325.out 2).trans rfl, (blk_cell BK303.out 0).trans rfl, (blk_cell BK303.out 1).trans rfl, (blk_cell BK303.out 2).trans rfl⟩ (fun hHeld => ?_)
      clear hK K
      refine norm_ (a' := ?_) ?_ ?_
      rotate_left
      ·show Act.put _ (some 38) _ = _
       simp only [Act.put, List.setIfInBounds_toArray, List.set_cons_zero, List.set_cons_succ, i64_w, i32_w]
       rfl
      refine yq_ (i := 4) (N := some 39) bq_55 (by kernel_rfl) ?_
      refine done_ (by kernel_rfl) ?_
      try go_wp2
      have n0_ := Aside0.mk (Kd.R_drew HO310.out)
      have n1_ := Aside0.mk (Kd.S_drew HO313.out)
      have n2_ := Aside0.mk (Kd.R_drew HO316.out)
      have n3_ := Aside0.mk (Kd.R_drew HO321.out)
      have n4_ := Aside0.mk (Kd.S_drew HO324.out)
      have n5_ := Aside0.mk (Kd.R_drew HO328.out)
      have n6_ := Aside0.mk (Kd.R_drew HO334.out)
      have n7_ := Aside0.mk (Kd.S_drew HO337.out)
      have n8_ := Aside0.mk (blk_drew BK303.out)
      have n9_ := Aside0.mk (blk_drew BK304.out)
      have n10_ := Aside0.mk (blk_drew BK325.out)
      have n11_ := Aside0.mk (blk_drew BK329.out)
      have n12_ := Aside0.mk (below_drew1 HB.out)
      clear HO310 HO313 HO316 HO321 HO324 HO328 HO334 HO337 BK303 BK304 BK325 BK329 HB
      have HO310 := n0_
      have HO313 := n1_
      have HO316 := n2_
      have HO321 := n3_
      have HO324 := n4_
      have HO328 := n5_
      have HO334 := n6_
      have HO337 := n7_
      have BK303 := n8_
      have BK304 := n9_
      have BK325 := n10_
      have BK329 := n11_
      have HB := n12_
      clear n0_ n1_ n2_ n3_ n4_ n5_ n6_ n7_ n8_ n9_ n10_ n11_ n12_
      refine start_ (n := 5) (S := fun w' => w'.cell? ⟨gb329, 0, none⟩ = some (.slice Ao130 t326.length co130) ∧ w'.cell? ⟨gb304, 0, none⟩ = some (.slice A1_0 l1_0.length c1_0)) (ds := []) bq_50 (by kernel_rfl) rfl rfl ⟨(blk_cell BK329.out 0).trans rfl, (blk_cell BK304.out 0).trans rfl⟩ (fun hHeld => ?_)
      generalize w141.drew = w142 at HO310 HO313 HO316 HO321 HO324 HO328 HO334 HO337 BK303 BK304 BK325 BK329 HB hHeld ⊢
      refine take_ (i := 0) (N := some 40) (v := ?_) (a' := ?_) bq_51 rfl rfl (by kernel_rfl) (fun _ _ _ h => h) (Or.inl ⟨by rfl, ?_⟩) hHeld ?_ ?_
      rotate_left
      ·rintro w' ⟨s0, s1⟩
       go_simp
       with_reducible rfl
      rotate_left
      ·simp only [Act.put, List.setIfInBounds_toArray, List.set_cons_zero, List.set_cons_succ, i64_w, i32_w]
       rfl
      refine take_ (i := 1) (N := some 41) (v := ?_) (a' := ?_) bq_52 rfl rfl (by kernel_rfl) (fun _ _ _ h => h) (Or.inl ⟨by rfl, ?_⟩) hHeld ?_ ?_
      rotate_left
      ·rintro w' ⟨s0, s1⟩
       go_simp
       with_reducible rfl
      rotate_left
      ·simp only [Act.put, List.setIfInBounds_toArray, List.set_cons_zero, List.set_cons_succ, i64_w, i32_w]
       rfl
      refine one_ (i := 2) (N := some 42) bq_53 rfl rfl (by kernel_rfl) (by decide) (fun K hK => ?_)
      refine goes_ Try.func17 (by kernel_rfl) rfl #[.agg #[.slice A1_0 l1_0.length c1_0]] (by rfl) rfl rfl tq_1 ?_
      with_reducible refine (laws_toView.calls k _ _ l1_0 t339 _ ?side1 ?side2 A61.out).mono ?_
      (case side1 => exact tq_14)
      (case side2 => exact HC1_0.out)
      rintro e w143 ⟨v340, rfl, ho0, hb⟩
      refine ⟨_, rfl, ?_⟩
      have n0_ := Aside0.mk (Kd.R_below tq_13 hb)
      have n1_ := Aside0.mk (Kd.S_below tq_12 hb)
      have n2_ := Aside0.mk (Kd.R_elder' tq_23 (Kd.R_base ho0) hb)
      have n3_ := Aside0.mk (Kd.R_below tq_26 hb)
      have n4_ := Aside0.mk (Kd.S_below tq_25 hb)
      have n5_ := Aside0.mk (Kd.R_elder' tq_36 (Kd.R_base ho0) hb)
      have n6_ := Aside0.mk (Kd.R_below tq_64 hb)
      have n7_ := Aside0.mk (Kd.S_below tq_63 hb)
      have n8_ := Aside0.mk (Kd.R_lower (Kd.R_new' (Kd.R_new' ho0 (Kd.R_lt tq_23)) (Kd.R_lt tq_36)) (below_size tq_8))
      have n9_ := Aside0.mk (blk_below tq_3 hb)
      have n10_ := Aside0.mk (blk_below tq_5 hb)
      have n11_ := Aside0.mk (blk_below tq_24 hb)
      have n12_ := Aside0.mk (blk_below tq_45 hb)
      have n13_ := Aside0.mk (below_step tq_8 hb)
      clear HO310 HO313 HO316 HO321 HO324 HO328 HO334 HO337 BK303 BK304 BK325 BK329 HB
      have HO310 := n0_
      have HO313 := n1_
      have HO316 := n2_
      have HO321 := n3_
      have HO324 := n4_
      have HO328 := n5_
      have HO334 := n6_
      have HO337 := n7_
      have HO341 := n8_
      have BK303 := n9_
      have BK304 := n10_
      have BK325 := n11_
      have BK329 := n12_
      have HB := n13_
      clear n0_ n1_ n2_ n3_ n4_ n5_ n6_ n7_ n8_ n9_ n10_ n11_ n12_ n13_
      (try clear hb)
      (try clear hb2)
      (try clear hk)
      (try clear hi)
      (try clear ho0)
      obtain ⟨Ao144, co144, eo144⟩ := Kd.R_slice HO341.out
      (first | subst eo144 | (injection eo144 with f1_ f2_ f3_; have f4_ := f1_.symm; have f5_ := f3_.symm; clear f1_ f2_ f3_; subst f4_; subst f5_))
      refine hK.out _ _ ⟨(blk_cell BK329.out 0).trans rfl, (blk_cell BK304.out 0).trans rfl⟩ (fun hHeld => ?_)
      clear hK K
      refine norm_ (a' := ?_) ?_ ?_
      rotate_left
      ·show Act.put _ (some 42) _ = _
       simp only [Act.put, List.setIfInBounds_toArray, List.set_cons_zero, List.set_cons_succ, i64_w, i32_w]
       rfl
      refine one_ (i := 3) (N := some 43) bq_54 rfl rfl (by kernel_rfl) (by decide) (fun K hK => ?_)
      refine goes_ Try.func19 (by kernel_rfl) rfl #[.agg #[.slice Ao130 t326.length co130], .agg #[.slice Ao144 t339.length co144]] (by rfl) rfl rfl tq_1 ?_
      with_reducible refine (laws_eqView.calls k _ _ t326 _ _ t339 false _ ?side1 ?side2 ?side3 ?side4 A62.out).mono ?_
      (case side1 => exact tq_145)
      (case side2 => exact (Kd.R_reads' HO328.out).2.1)
      (case side3 => exact tq_144)
      (case side4 => exact (Kd.R_reads' HO341.out).2.1)
      rintro e w145 ⟨rfl, hb⟩
      refine ⟨_, rfl, ?_⟩
      have n0_ := Aside0.mk (Kd.R_below tq_13 hb)
      have n1_ := Aside0.mk (Kd.S_below tq_12 hb)
      have n2_ := Aside0.mk (Kd.R_below tq_23 hb)
      have n3_ := Aside0.mk (Kd.R_below tq_26 hb)
      have n4_ := Aside0.mk (Kd.S_below tq_25 hb)
      have n5_ := Aside0.mk (Kd.R_below tq_36 hb)
      have n6_ := Aside0.mk (Kd.R_below tq_64 hb)
      have n7_ := Aside0.mk (Kd.S_below tq_63 hb)
      have n8_ := Aside0.mk (Kd.R_below (by (with_reducible repeat (first | apply Kd.R_alloc | apply Kd.R_drewN | apply Kd.R_drew)); exact HO341.out) hb)
      have n9_ := Aside0.mk (blk_below tq_3 hb)
      have n10_ := Aside0.mk (blk_below tq_5 hb)
      have n11_ := Aside0.mk (blk_below tq_24 hb)
      have n12_ := Aside0.mk (blk_below tq_45 hb)
      have n13_ := Aside0.mk (below_step tq_8 hb)
      clear HO310 HO313 HO316 HO321 HO324 HO328 HO334 HO337 HO341 BK303 BK304 BK325 BK329 HB
      have HO310 := n0_
      have HO313 := n1_
      have HO316 := n2_
      have HO321 := n3_
      have HO324 := n4_
      have HO328 := n5_
      have HO334 := n6_
      have HO337 := n7_
      have HO341 := n8_
      have BK303 := n9_
      have BK304 := n10_
      have BK325 := n11_
      have BK329 := n12_
      have HB := n13_
      clear n0_ n1_ n2_ n3_ n4_ n5_ n6_ n7_ n8_ n9_ n10_ n11_ n12_ n13_
      (try clear hb)
      (try clear hb2)
      (try clear hk)
      (try clear hi)
      refine hK.out _ _ ⟨(blk_cell BK329.out 0).trans rfl, (blk_cell BK304.out 0).trans rfl⟩ (fun hHeld => ?_)
      clear hK K
      refine norm_ (a' := ?_) ?_ ?_
      rotate_left
      ·show Act.put _ (some 43) _ = _
       simp only [Act.put, List.setIfInBounds_toArray, List.set_cons_zero, List.set_cons_succ, i64_w, i32_w]
       rfl
      refine yq_ (i := 4) (N := some 44) bq_55 (by kernel_rfl) ?_
      refine done_ (by kernel_rfl) ?_
      try go_wp2
      go_ret
      exact ⟨by first | rfl | (simp [errW_none, errW_some] <;> rfl) | (simp [*, errW_none, errW_some] <;> rfl), by repeat (first | (with_reducible first | exact HB.out | apply below_alloc | apply pw_below_drewN | apply below_drew1 | refine below_set ?_ GE303.out | refine below_set ?_ GE304.out | refine below_set ?_ GE325.out | refine below_set ?_ GE329.out) | exact HB.out)⟩
    ·replace c60 := Bool.eq_false_iff.mpr c60
     subst c60
     have H1 : (some false) = some r := by rw [if_neg (show ¬ (false = true) by decide)] at H; exact H
     clear H
     have H := H1
     clear H1
     obtain rfl := Option.some.inj H
     go_enter Try.func10, Try.ntmps10
     try go_wp2_with (first | ((with_reducible refine gate_dst (N := 2) rfl ?_); refine box_event ?hg (N := 2) ?hd (cs := #[.int .i64 a0_0, .slice A0_1 l0_1.length c0_1, .slice A0_2 l0_2.length c0_2]) (t := 86) ?hr ?_; (case hd => rfl); (case hg => rfl); (case hr => first | (go_simp; done) | (go_simp; rfl)); intro gb303 hg w146 hbox hb; have n0_ := Aside0.mk (below_step tq_0 hb); have n1_ := Aside0.mk (hbox); have n2_ := Aside0.mk (gb_ hg tq_0); have n3_ := Aside0.mk (gb_ hg tq_0); clear HB; have HB := n0_; have BK303 := n1_; have GW303 := n2_; have GE303 := n3_; clear n0_ n1_ n2_ n3_; clear hb hbox hg) | ((with_reducible refine gate_dst (N := 3) rfl ?_); refine box_event ?hg (N := 3) ?hd (cs := #[.slice A1_0 l1_0.length c1_0]) (t := 24) ?hr ?_; (case hd => rfl); (case hg => rfl); (case hr => first | (go_simp; done) | (go_simp; rfl)); intro gb304 hg w147 hbox hb; have n0_ := Aside0.mk (blk_below tq_3 hb); have n1_ := Aside0.mk (below_step tq_21 hb); have n2_ := Aside0.mk (hbox); have n3_ := Aside0.mk (gb_ hg tq_21); have n4_ := Aside0.mk (gb_ hg tq_21); have n5_ := Aside0.mk (ltne_ hg (blk_lt tq_3)); have n6_ := Aside0.mk (gtne_ hg (blk_lt tq_3)); clear BK303 HB; have BK303 := n0_; have HB := n1_; have BK304 := n2_; have GW304 := n3_; have GE304 := n4_; have NB303_304 := n5_; have NB304_303 := n6_; clear n0_ n1_ n2_ n3_ n4_ n5_ n6_; clear hb hbox hg; have hnb148 := NB303_304.out; have hnc148 := NB304_303.out; have hcz149_0 := bc_ BK303.out 0; have hcz149_1 := bc_ BK303.out 1; have hcz149_2 := bc_ BK303.out 2; have hfz149_0 := blk_frozen BK303.out 0; have hfz149_1 := blk_frozen BK303.out 1; have hfz149_2 := blk_frozen BK303.out 2) | ((with_reducible refine gate_callee (f := 53) rfl ?_); refine goesL_ (some 12) rfl rfl Try.func53 (by kernel_rfl) rfl #[.agg #[.int .i64 a0_0, .slice A0_1 l0_1.length c0_1, .slice A0_2 l0_2.length c0_2], .int .i64 1048576] rfl tq_1 ?_; (with_reducible refine (laws_szPart.calls k a0_0 _ _ l0_1 _ _ l0_2 1048576 t305 _ ?side1 ?side2 ?side3 ?side4 A3.out).mono ?_); (case side1 => exact tq_6); (case side2 => exact HC0_1.out); (case side3 => exact tq_7); (case side4 => exact HC0_2.out); rintro e w150 ⟨rfl, hb⟩; refine ⟨_, rfl, ?_⟩; have n0_ := Aside0.mk (blk_below tq_3 hb); have n1_ := Aside0.mk (blk_below tq_5 hb); have n2_ := Aside0.mk (below_step tq_2 hb); clear BK303 BK304 HB; have BK303 := n0_; have BK304 := n1_; have HB := n2_; clear n0_ n1_ n2_; (try clear hb); (try clear hb2); (try clear hk); (try clear hi); have hcz151_0 := bc_ BK304.out 0; have hfz151_0 := blk_frozen BK304.out 0) | ((with_reducible refine gate_callee (f := 15) rfl ?_); refine goesL_ (some 17) rfl rfl Try.func15 (by kernel_rfl) rfl #[.agg #[.slice A1_0 l1_0.length c1_0], .int .i64 t305] rfl tq_1 ?_; (with_reducible refine (laws_szView.calls k _ _ l1_0 t305 t306 _ ?side1 ?side2 A10.out).mono ?_); (case side1 => exact tq_14); (case side2 => exact HC1_0.out); rintro e w152 ⟨rfl, hb⟩; refine ⟨_, rfl, ?_⟩; have n0_ := Aside0.mk (blk_below tq_3 hb); have n1_ := Aside0.mk (blk_below tq_5 hb); have n2_ := Aside0.mk (below_step tq_2 hb); clear BK303 BK304 HB; have BK303 := n0_; have BK304 := n1_; have HB := n2_; clear n0_ n1_ n2_; (try clear hb); (try clear hb2); (try clear hk); (try clear hi)))
     have n0_ := Aside0.mk (blk_drew BK303.out)
     have n1_ := Aside0.mk (blk_drew BK304.out)
     have n2_ := Aside0.mk (below_drew1 HB.out)
     clear BK303 BK304 HB
     have BK303 := n0_
     have BK304 := n1_
     have HB := n2_
     clear n0_ n1_ n2_
     refine start_ (n := 6) (S := fun w' => w'.cell? ⟨gb303, 0, none⟩ = some (.int .i64 a0_0) ∧ w'.cell? ⟨gb303, 1, none⟩ = some (.slice A0_1 l0_1.length c0_1) ∧ w'.cell? ⟨gb303, 2, none⟩ = some (.slice A0_2 l0_2.length c0_2) ∧ w'.cell? ⟨gb304, 0, none⟩ = some (.slice A1_0 l1_0.length c1_0)) (ds := []) bq_0 (by kernel_rfl) rfl rfl ⟨(blk_cell BK303.out 0).trans rfl, (blk_cell BK303.out 1).trans rfl, (blk_cell BK303.out 2).trans rfl, (blk_cell BK304.out 0).trans rfl⟩ (fun hHeld => ?_)
     generalize w152.drew = w153 at BK303 BK304 HB hHeld ⊢
     refine take_ (i := 0) (N := some 20) (v := ?_) (a' := ?_) bq_62 rfl rfl (by kernel_rfl) (fun _ _ _ h => h) (Or.inl ⟨by rfl, ?_⟩) hHeld ?_ ?_
     rotate_left
     ·rintro w' ⟨s0, s1, s2, s3⟩
      go_simp
      with_reducible rfl
     rotate_left
     ·simp only [Act.put, List.setIfInBounds_toArray, List.set_cons_zero, List.set_cons_succ, i64_w, i32_w]
      rfl
     refine take_ (i := 2) (N := some 22) (v := ?_) (a' := ?_) bq_1 rfl rfl (by kernel_rfl) (fun _ _ _ h => h) (Or.inl ⟨by rfl, ?_⟩) hHeld ?_ ?_
     rotate_left
     ·rintro w' ⟨s0, s1, s2, s3⟩
      go_simp
      with_reducible rfl
     rotate_left
     ·simp only [Act.put, List.setIfInBounds_toArray, List.set_cons_zero, List.set_cons_succ, i64_w, i32_w]
      rfl
     refine one_ (i := 1) (N := some 21) bq_2 rfl rfl (by kernel_rfl) (by decide) (fun K hK => ?_)
     refine goes_ Try.func55 (by kernel_rfl) rfl #[.agg #[.int .i64 a0_0, .slice A0_1 l0_1.length c0_1, .slice A0_2 l0_2.length c0_2]] (by rfl) rfl rfl tq_1 ?_
     with_reducible refine (laws_toPart.calls k a0_0 _ _ l0_1 _ _ l0_2 t307 t308 t311 _ ?side1 ?side2 ?side3 ?side4 A19.out).mono ?_
     (case side1 => exact tq_6)
     (case side2 => exact HC0_1.out)
     (case side3 => exact tq_7)
     (case side4 => exact HC0_2.out)
     rintro e w154 ⟨v309, v312, rfl, ho0, ho1, hb⟩
     refine ⟨_, rfl, ?_⟩
     have n0_ := Aside0.mk (Kd.R_lower ho0 (below_size tq_2))
     have n1_ := Aside0.mk (Kd.S_lower ho1 (below_size tq_2))
     have n2_ := Aside0.mk (blk_below tq_3 hb)
     have n3_ := Aside0.mk (blk_below tq_5 hb)
     have n4_ := Aside0.mk (below_step tq_2 hb)
     clear BK303 BK304 HB
     have HO310 := n0_
     have HO313 := n1_
     have BK303 := n2_
     have BK304 := n3_
     have HB := n4_
     clear n0_ n1_ n2_ n3_ n4_
     (try clear hb)
     (try clear hb2)
     (try clear hk)
     (try clear hi)
     (try clear ho0)
     (try clear ho1)
     refine hK.out _ _ ⟨(blk_cell BK303.out 0).trans rfl, (blk_cell BK303.out 1).trans rfl, (blk_cell BK303.out 2).trans rfl, (blk_cell BK304.out 0).trans rfl⟩ (fun hHeld => ?_)
     clear hK K
     refine norm_ (a' := ?_) ?_ ?_
     rotate_left
     ·show Act.put _ (some 21) _ = _
      simp only [Act.put, List.setIfInBounds_toArray, List.set_cons_zero, List.set_cons_succ, i64_w, i32_w]
      rfl
     refine one_ (i := 3) (N := some 23) bq_3 rfl rfl (by kernel_rfl) (by decide) (fun K hK => ?_)
     refine goes_ Try.func17 (by kernel_rfl) rfl #[.agg #[.slice A1_0 l1_0.length c1_0]] (by rfl) rfl rfl tq_1 ?_
     with_reducible refine (laws_toView.calls k _ _ l1_0 t314 _ ?side1 ?side2 A20.out).mono ?_
     (case side1 => exact tq_14)
     (case side2 => exact HC1_0.out)
     rintro e w155 ⟨v315, rfl, ho0, hb⟩
     refine ⟨_, rfl, ?_⟩
     have n0_ := Aside0.mk (Kd.R_below tq_13 hb)
     have n1_ := Aside0.mk (Kd.S_below tq_12 hb)
     have n2_ := Aside0.mk (Kd.R_lower ho0 (below_size tq_2))
     have n3_ := Aside0.mk (blk_below tq_3 hb)
     have n4_ := Aside0.mk (blk_below tq_5 hb)
     have n5_ := Aside0.mk (below_step tq_2 hb)
     clear HO310 HO313 BK303 BK304 HB
     have HO310 := n0_
     have HO313 := n1_
     have HO316 := n2_
     have BK303 := n3_
     have BK304 := n4_
     have HB := n5_
     clear n0_ n1_ n2_ n3_ n4_ n5_
     (try clear hb)
     (try clear hb2)
     (try clear hk)
     (try clear hi)
     (try clear ho0)
     obtain ⟨Ao156, co156, eo156⟩ := Kd.R_slice HO310.out
     (first | subst eo156 | (injection eo156 with f1_ f2_ f3_; have f4_ := f1_.symm; have f5_ := f3_.symm; clear f1_ f2_ f3_; subst f4_; subst f5_))
     obtain ⟨Ao157, co157, eo157⟩ := Kd.S_slice HO313.out
     (first | subst eo157 | (injection eo157 with f1_ f2_ f3_; have f4_ := f1_.symm; have f5_ := f3_.symm; clear f1_ f2_ f3_; subst f4_; subst f5_))
     obtain ⟨Ao158, co158, eo158⟩ := Kd.R_slice HO316.out
     (first | subst eo158 | (injection eo158 with f1_ f2_ f3_; have f4_ := f1_.symm; have f5_ := f3_.symm; clear f1_ f2_ f3_; subst f4_; subst f5_))
     refine hK.out _ _ ⟨(blk_cell BK303.out 0).trans rfl, (blk_cell BK303.out 1).trans rfl, (blk_cell BK303.out 2).trans rfl, (blk_cell BK304.out 0).trans rfl⟩ (fun hHeld => ?_)
     clear hK K
     refine norm_ (a' := ?_) ?_ ?_
     rotate_left
     ·show Act.put _ (some 23) _ = _
      simp only [Act.put, List.setIfInBounds_toArray, List.set_cons_zero, List.set_cons_succ, i64_w, i32_w]
      rfl
     refine one_ (i := 4) (N := some 24) bq_4 rfl rfl (by kernel_rfl) (by decide) (fun K hK => ?_)
     refine goes_ Try.func54 (by kernel_rfl) rfl #[.agg #[.int .i64 t307, .slice Ao156 t308.length co156, .slice Ao157 t311.length co157], .agg #[.slice Ao158 t314.length co158]] (by rfl) rfl rfl tq_1 ?_
     with_reducible refine (spec_Fits.calls k t307 _ _ t308 _ _ t311 _ _ t314 t317 _ ?side1 ?side2 ?side3 ?side4 ?side5 ?side6 A21.out).mono ?_
     (case side1 => exact tq_76)
     (case side2 => exact (Kd.R_reads' HO310.out).2.1)
     (case side3 => exact tq_74)
     (case side4 => exact (Kd.S_reads' HO313.out).2.1)
     (case side5 => exact tq_75)
     (case side6 => exact (Kd.R_reads' HO316.out).2.1)
     rintro e w159 ⟨rfl, hb⟩
     refine ⟨_, rfl, ?_⟩
     have n0_ := Aside0.mk (Kd.R_below tq_13 hb)
     have n1_ := Aside0.mk (Kd.S_below tq_12 hb)
     have n2_ := Aside0.mk (Kd.R_below tq_23 hb)
     have n3_ := Aside0.mk (blk_below tq_3 hb)
     have n4_ := Aside0.mk (blk_below tq_5 hb)
     have n5_ := Aside0.mk (below_step tq_2 hb)
     clear HO310 HO313 HO316 BK303 BK304 HB
     have HO310 := n0_
     have HO313 := n1_
     have HO316 := n2_
     have BK303 := n3_
     have BK304 := n4_
     have HB := n5_
     clear n0_ n1_ n2_ n3_ n4_ n5_
     (try clear hb)
     (try clear hb2)
     (try clear hk)
     (try clear hi)
     refine hK.out _ _ ⟨(blk_cell BK303.out 0).trans rfl, (blk_cell BK303.out 1).trans rfl, (blk_cell BK303.out 2).trans rfl, (blk_cell BK304.out 0).trans rfl⟩ (fun hHeld => ?_)
     clear hK K
     refine norm_ (a' := ?_) ?_ ?_
     rotate_left
     ·show Act.put _ (some 24) _ = _
      simp only [Act.put, List.setIfInBounds_toArray, List.set_cons_zero, List.set_cons_succ, i64_w, i32_w]
      rfl
     refine yq_ (i := 5) (N := some 6) bq_5 (by kernel_rfl) ?_
     refine done_ (by kernel_rfl) ?_
     have hcz160_0 := bc_ BK303.out 0
     have hcz160_1 := bc_ BK303.out 1
     have hcz160_2 := bc_ BK303.out 2
     have hfz160_0 := blk_frozen BK303.out 0
     have hfz160_1 := blk_frozen BK303.out 1
     have hfz160_2 := blk_frozen BK303.out 2
     try go_wp2_with (first | ((with_reducible refine gate_callee (f := 55) rfl ?_); refine goesL_ (some 26) rfl rfl Try.func55 (by kernel_rfl) rfl #[.agg #[.int .i64 a0_0, .slice A0_1 l0_1.length c0_1, .slice A0_2 l0_2.length c0_2]] rfl tq_1 ?_; (with_reducible refine (laws_toPart.calls k a0_0 _ _ l0_1 _ _ l0_2 t318 t319 t322 _ ?side1 ?side2 ?side3 ?side4 A22.out).mono ?_); (case side1 => exact tq_6); (case side2 => exact HC0_1.out); (case side3 => exact tq_7); (case side4 => exact HC0_2.out); rintro e w161 ⟨v320, v323, rfl, ho0, ho1, hb⟩; refine ⟨_, rfl, ?_⟩; have n0_ := Aside0.mk (Kd.R_elder' tq_13 (Kd.R_base ho0) hb); have n1_ := Aside0.mk (Kd.S_elder' tq_12 (Kd.S_base ho1) hb); have n2_ := Aside0.mk (Kd.R_below tq_23 hb); have n3_ := Aside0.mk (Kd.R_lower (Kd.R_new' ho0 (Kd.R_lt tq_13)) (below_size tq_2)); have n4_ := Aside0.mk (Kd.S_lower (Kd.S_new' ho1 (Kd.S_lt tq_12)) (below_size tq_2)); have n5_ := Aside0.mk (blk_below tq_3 hb); have n6_ := Aside0.mk (blk_below tq_5 hb); have n7_ := Aside0.mk (below_step tq_2 hb); clear HO310 HO313 HO316 BK303 BK304 HB; have HO310 := n0_; have HO313 := n1_; have HO316 := n2_; have HO321 := n3_; have HO324 := n4_; have BK303 := n5_; have BK304 := n6_; have HB := n7_; clear n0_ n1_ n2_ n3_ n4_ n5_ n6_ n7_; (try clear hb); (try clear hb2); (try clear hk); (try clear hi); (try clear ho0); (try clear ho1)) | ((with_reducible refine gate_dst (N := 7) rfl ?_); refine box_event ?hg (N := 7) ?hd (cs := #[.int .i64 0, .slice none 0 0, .slice none 0 0]) (t := 69) ?hr ?_; (case hd => rfl); (case hg => rfl); (case hr => first | (go_simp; done) | (go_simp; rfl)); intro gb325 hg w162 hbox hb; have n0_ := Aside0.mk (Kd.R_below tq_13 hb); have n1_ := Aside0.mk (Kd.S_below tq_12 hb); have n2_ := Aside0.mk (Kd.R_below tq_23 hb); have n3_ := Aside0.mk (Kd.R_below tq_26 hb); have n4_ := Aside0.mk (Kd.S_below tq_25 hb); have n5_ := Aside0.mk (blk_below tq_3 hb); have n6_ := Aside0.mk (blk_below tq_5 hb); have n7_ := Aside0.mk (below_step tq_2 hb); have n8_ := Aside0.mk (hbox); have n9_ := Aside0.mk (gb_ hg tq_2); have n10_ := Aside0.mk (gb_ hg tq_2); have n11_ := Aside0.mk (ltne_ hg (blk_lt tq_3)); have n12_ := Aside0.mk (gtne_ hg (blk_lt tq_3)); have n13_ := Aside0.mk (ltne_ hg (blk_lt tq_5)); have n14_ := Aside0.mk (gtne_ hg (blk_lt tq_5)); clear HO310 HO313 HO316 HO321 HO324 BK303 BK304 HB; have HO310 := n0_; have HO313 := n1_; have HO316 := n2_; have HO321 := n3_; have HO324 := n4_; have BK303 := n5_; have BK304 := n6_; have HB := n7_; have BK325 := n8_; have GW325 := n9_; have GE325 := n10_; have NB303_325 := n11_; have NB325_303 := n12_; have NB304_325 := n13_; have NB325_304 := n14_; clear n0_ n1_ n2_ n3_ n4_ n5_ n6_ n7_ n8_ n9_ n10_ n11_ n12_ n13_ n14_; clear hb hbox hg; have hnb163 := NB325_303.out; have hnc163 := NB303_325.out; have hnb164 := NB325_304.out; have hnc164 := NB304_325.out; have hcz165_0 := bc_ BK325.out 0; have hcz165_1 := bc_ BK325.out 1; have hcz165_2 := bc_ BK325.out 2; have hfz165_0 := blk_frozen BK325.out 0; have hfz165_1 := blk_frozen BK325.out 1; have hfz165_2 := blk_frozen BK325.out 2; obtain ⟨Ao166, co166, eo166⟩ := Kd.R_slice HO321.out; subst eo166; obtain ⟨Ao167, co167, eo167⟩ := Kd.S_slice HO324.out; subst eo167; have hcz168_0 := bc_ BK304.out 0; have hfz168_0 := blk_frozen BK304.out 0) | ((with_reducible refine gate_callee (f := 17) rfl ?_); refine goesL_ (some 28) rfl rfl Try.func17 (by kernel_rfl) rfl #[.agg #[.slice A1_0 l1_0.length c1_0]] rfl tq_1 ?_; (with_reducible refine (laws_toView.calls k _ _ l1_0 t326 _ ?side1 ?side2 A23.out).mono ?_); (case side1 => exact Kd.C_below HR1_0.out tq_9); (case side2 => exact HC1_0.out); rintro e w169 ⟨v327, rfl, ho0, hb⟩; refine ⟨_, rfl, ?_⟩; have n0_ := Aside0.mk (Kd.R_below (by (with_reducible repeat (first | apply Kd.R_alloc | apply Kd.R_drewN | apply Kd.R_drew)); exact (Kd.R_mono (Kd.R_far (p := ⟨gb325, 2, none⟩) (Kd.R_far (p := ⟨gb325, 1, none⟩) (Kd.R_far (p := ⟨gb325, 0, none⟩) (Kd.R_types HO310.out BK325.out (by decide)) (fun _ hk => hk.2) (.int .i64 t318)) (fun _ hk => hk.2) (.slice Ao166 t319.length co166)) (fun _ hk => hk.2) (.slice Ao167 t322.length co167)) (fun _ h_ => h_.1))) hb); have n1_ := Aside0.mk (Kd.S_below (by (with_reducible repeat (first | apply Kd.S_alloc | apply Kd.S_drewN | apply Kd.S_drew)); exact (Kd.S_mono (Kd.S_far (p := ⟨gb325, 2, none⟩) (Kd.S_far (p := ⟨gb325, 1, none⟩) (Kd.S_far (p := ⟨gb325, 0, none⟩) (Kd.S_types HO313.out BK325.out (by decide)) (fun _ hk => hk.2) (.int .i64 t318)) (fun _ hk => hk.2) (.slice Ao166 t319.length co166)) (fun _ hk => hk.2) (.slice Ao167 t322.length co167)) (fun _ h_ => h_.1))) hb); have n2_ := Aside0.mk (Kd.R_elder' tq_80 (Kd.R_base ho0) hb); have n3_ := Aside0.mk (Kd.R_below (by (with_reducible repeat (first | apply Kd.R_alloc | apply Kd.R_drewN | apply Kd.R_drew)); exact (Kd.R_mono (Kd.R_far (p := ⟨gb325, 2, none⟩) (Kd.R_far (p := ⟨gb325, 1, none⟩) (Kd.R_far (p := ⟨gb325, 0, none⟩) (Kd.R_types HO321.out BK325.out (by decide)) (fun _ hk => hk.2) (.int .i64 t318)) (fun _ hk => hk.2) (.slice Ao166 t319.length co166)) (fun _ hk => hk.2) (.slice Ao167 t322.length co167)) (fun _ h_ => h_.1))) hb); have n4_ := Aside0.mk (Kd.S_below (by (with_reducible repeat (first | apply Kd.S_alloc | apply Kd.S_drewN | apply Kd.S_drew)); exact (Kd.S_mono (Kd.S_far (p := ⟨gb325, 2, none⟩) (Kd.S_far (p := ⟨gb325, 1, none⟩) (Kd.S_far (p := ⟨gb325, 0, none⟩) (Kd.S_types HO324.out BK325.out (by decide)) (fun _ hk => hk.2) (.int .i64 t318)) (fun _ hk => hk.2) (.slice Ao166 t319.length co166)) (fun _ hk => hk.2) (.slice Ao167 t322.length co167)) (fun _ h_ => h_.1))) hb); have n5_ := Aside0.mk (Kd.R_lower (Kd.R_new' ho0 (Kd.R_lt tq_80)) (below_size tq_9)); have n6_ := Aside0.mk (blk_below (g := gb303) (o := .cells #[.int .i64 a0_0, .slice A0_1 l0_1.length c0_1, .slice A0_2 l0_2.length c0_2] 86 (0, 0)) tq_35 hb); have n7_ := Aside0.mk (blk_below (g := gb304) (o := .cells #[.slice A1_0 l1_0.length c1_0] 24 (0, 0)) tq_34 hb); have n8_ := Aside0.mk (blk_below (g := gb325) (o := .cells #[.int .i64 t318, .slice Ao166 t319.length co166, .slice Ao167 t322.length co167] 69 (0, 0)) (by (with_reducible repeat (first | refine blk_drewN ?_ _ | refine blk_drew ?_ | refine blk_alloc ?_ _)); refine blk_put (cs := #[.int .i64 t318, .slice Ao166 t319.length co166, .slice none 0 0]) ?_ 2 _ rfl; (with_reducible repeat (first | refine blk_drewN ?_ _ | refine blk_drew ?_ | refine blk_alloc ?_ _)); refine blk_put (cs := #[.int .i64 t318, .slice none 0 0, .slice none 0 0]) ?_ 1 _ rfl; (with_reducible repeat (first | refine blk_drewN ?_ _ | refine blk_drew ?_ | refine blk_alloc ?_ _)); refine blk_put (cs := #[.int .i64 0, .slice none 0 0, .slice none 0 0]) ?_ 0 _ rfl; (with_reducible repeat (first | refine blk_drewN ?_ _ | refine blk_drew ?_ | refine blk_alloc ?_ _)); exact BK325.out) hb); have n9_ := Aside0.mk (below_step tq_9 hb); clear HO310 HO313 HO316 HO321 HO324 BK303 BK304 BK325 HB; have HO310 := n0_; have HO313 := n1_; have HO316 := n2_; have HO321 := n3_; have HO324 := n4_; have HO328 := n5_; have BK303 := n6_; have BK304 := n7_; have BK325 := n8_; have HB := n9_; clear n0_ n1_ n2_ n3_ n4_ n5_ n6_ n7_ n8_ n9_; (try clear hb); (try clear hb2); (try clear hk); (try clear hi); (try clear ho0)) | ((with_reducible refine gate_dst (N := 8) rfl ?_); refine box_event ?hg (N := 8) ?hd (cs := #[.slice none 0 0]) (t := 28) ?hr ?_; (case hd => rfl); (case hg => rfl); (case hr => first | (go_simp; done) | (go_simp; rfl)); intro gb329 hg w170 hbox hb; have n0_ := Aside0.mk (Kd.R_below tq_13 hb); have n1_ := Aside0.mk (Kd.S_below tq_12 hb); have n2_ := Aside0.mk (Kd.R_below tq_23 hb); have n3_ := Aside0.mk (Kd.R_below tq_26 hb); have n4_ := Aside0.mk (Kd.S_below tq_25 hb); have n5_ := Aside0.mk (Kd.R_below tq_36 hb); have n6_ := Aside0.mk (blk_below tq_3 hb); have n7_ := Aside0.mk (blk_below tq_5 hb); have n8_ := Aside0.mk (blk_below tq_24 hb); have n9_ := Aside0.mk (below_step tq_9 hb); have n10_ := Aside0.mk (hbox); have n11_ := Aside0.mk (gb_ hg tq_9); have n12_ := Aside0.mk (gb_ hg tq_9); have n13_ := Aside0.mk (ltne_ hg (blk_lt tq_3)); have n14_ := Aside0.mk (gtne_ hg (blk_lt tq_3)); have n15_ := Aside0.mk (ltne_ hg (blk_lt tq_5)); have n16_ := Aside0.mk (gtne_ hg (blk_lt tq_5)); have n17_ := Aside0.mk (ltne_ hg (blk_lt tq_24)); have n18_ := Aside0.mk (gtne_ hg (blk_lt tq_24)); clear HO310 HO313 HO316 HO321 HO324 HO328 BK303 BK304 BK325 HB; have HO310 := n0_; have HO313 := n1_; have HO316 := n2_; have HO321 := n3_; have HO324 := n4_; have HO328 := n5_; have BK303 := n6_; have BK304 := n7_; have BK325 := n8_; have HB := n9_; have BK329 := n10_; have GW329 := n11_; have GE329 := n12_; have NB303_329 := n13_; have NB329_303 := n14_; have NB304_329 := n15_; have NB329_304 := n16_; have NB325_329 := n17_; have NB329_325 := n18_; clear n0_ n1_ n2_ n3_ n4_ n5_ n6_ n7_ n8_ n9_ n10_ n11_ n12_ n13_ n14_ n15_ n16_ n17_ n18_; clear hb hbox hg; obtain ⟨Ao171, co171, eo171⟩ := Kd.R_slice HO328.out; subst eo171; have hnb172 := NB329_303.out; have hnc172 := NB303_329.out; have hnb173 := NB329_304.out; have hnc173 := NB304_329.out; have hnb174 := NB329_325.out; have hnc174 := NB325_329.out; have hcz175_0 := bc_ BK329.out 0; have hfz175_0 := blk_frozen BK329.out 0; have hcz176_0 := bc_ BK325.out 0; have hcz176_1 := bc_ BK325.out 1; have hcz176_2 := bc_ BK325.out 2; have hfz176_0 := blk_frozen BK325.out 0; have hfz176_1 := blk_frozen BK325.out 1; have hfz176_2 := blk_frozen BK325.out 2) | ((with_reducible refine gate_callee (f := 56) rfl ?_); refine goesL_ (some 31) rfl rfl Try.func56 (by kernel_rfl) rfl #[.agg #[.int .i64 t318, .slice Ao166 t319.length co166, .slice Ao167 t322.length co167], .agg #[.slice Ao171 t326.length co171]] rfl tq_1 ?_; (with_reducible refine (impl_Fits.calls k t318 _ _ t319 _ _ t322 _ _ t326 t330 _ ?side1 ?side2 ?side3 ?side4 ?side5 ?side6 A24.out).mono ?_); (case side1 => refine (Kd.R_reads' (e := 3) (base := w.heap.size) (ok := fun k_ => (True ∧ some k_ ≠ (.slice Ao156 t308.length co156 : Value).ownBlock)) (n := t319.length) (c := co166) ?_).2.2; exact tq_115); (case side2 => exact (Kd.R_reads' HO321.out).2.1); (case side3 => refine (Kd.S_reads' (e := 49) (base := w.heap.size) (ok := fun k_ => (True ∧ some k_ ≠ (.slice Ao157 t311.length co157 : Value).ownBlock)) (n := t322.length) (c := co167) ?_).2.2; exact tq_111); (case side4 => exact (Kd.S_reads' HO324.out).2.1); (case side5 => refine (Kd.R_reads' (e := 38) (base := w.heap.size) (ok := fun k_ => (True ∧ some k_ ≠ (.slice Ao158 t314.length co158 : Value).ownBlock)) (n := t326.length) (c := co171) ?_).2.2; exact tq_113); (case side6 => exact (Kd.R_reads' HO328.out).2.1); rintro e w177 ⟨rfl, hb⟩; refine ⟨_, rfl, ?_⟩; have n0_ := Aside0.mk (Kd.R_below (by (with_reducible repeat (first | apply Kd.R_alloc | apply Kd.R_drewN | apply Kd.R_drew)); exact (Kd.R_mono (Kd.R_far (p := ⟨gb329, 0, none⟩) (Kd.R_types HO310.out BK329.out (by decide)) (fun _ hk => hk.2) (.slice Ao171 t326.length co171)) (fun _ h_ => h_.1))) hb); have n1_ := Aside0.mk (Kd.S_below (by (with_reducible repeat (first | apply Kd.S_alloc | apply Kd.S_drewN | apply Kd.S_drew)); exact (Kd.S_mono (Kd.S_far (p := ⟨gb329, 0, none⟩) (Kd.S_types HO313.out BK329.out (by decide)) (fun _ hk => hk.2) (.slice Ao171 t326.length co171)) (fun _ h_ => h_.1))) hb); have n2_ := Aside0.mk (Kd.R_below (by (with_reducible repeat (first | apply Kd.R_alloc | apply Kd.R_drewN | apply Kd.R_drew)); exact (Kd.R_mono (Kd.R_far (p := ⟨gb329, 0, none⟩) (Kd.R_types HO316.out BK329.out (by decide)) (fun _ hk => hk.2) (.slice Ao171 t326.length co171)) (fun _ h_ => h_.1))) hb); have n3_ := Aside0.mk (Kd.R_below tq_115 hb); have n4_ := Aside0.mk (Kd.S_below tq_111 hb); have n5_ := Aside0.mk (Kd.R_below tq_113 hb); have n6_ := Aside0.mk (blk_below (g := gb303) (o := .cells #[.int .i64 a0_0, .slice A0_1 l0_1.length c0_1, .slice A0_2 l0_2.length c0_2] 86 (0, 0)) tq_60 hb); have n7_ := Aside0.mk (blk_below (g := gb304) (o := .cells #[.slice A1_0 l1_0.length c1_0] 24 (0, 0)) tq_59 hb); have n8_ := Aside0.mk (blk_below (g := gb325) (o := .cells #[.int .i64 t318, .slice Ao166 t319.length co166, .slice Ao167 t322.length co167] 69 (0, 0)) tq_58 hb); have n9_ := Aside0.mk (blk_below (g := gb329) (o := .cells #[.slice Ao171 t326.length co171] 28 (0, 0)) tq_52 hb); have n10_ := Aside0.mk (below_step tq_8 hb); clear HO310 HO313 HO316 HO321 HO324 HO328 BK303 BK304 BK325 BK329 HB; have HO310 := n0_; have HO313 := n1_; have HO316 := n2_; have HO321 := n3_; have HO324 := n4_; have HO328 := n5_; have BK303 := n6_; have BK304 := n7_; have BK325 := n8_; have BK329 := n9_; have HB := n10_; clear n0_ n1_ n2_ n3_ n4_ n5_ n6_ n7_ n8_ n9_ n10_; (try clear hb); (try clear hb2); (try clear hk); (try clear hi)))
     have n0_ := Aside0.mk (Kd.R_drew HO310.out)
     have n1_ := Aside0.mk (Kd.S_drew HO313.out)
     have n2_ := Aside0.mk (Kd.R_drew HO316.out)
     have n3_ := Aside0.mk (Kd.R_drew HO321.out)
     have n4_ := Aside0.mk (Kd.S_drew HO324.out)
     have n5_ := Aside0.mk (Kd.R_drew HO328.out)
     have n6_ := Aside0.mk (blk_drew BK303.out)
     have n7_ := Aside0.mk (blk_drew BK304.out)
     have n8_ := Aside0.mk (blk_drew BK325.out)
     have n9_ := Aside0.mk (blk_drew BK329.out)
     have n10_ := Aside0.mk (below_drew1 HB.out)
     clear HO310 HO313 HO316 HO321 HO324 HO328 BK303 BK304 BK325 BK329 HB
     have HO310 := n0_
     have HO313 := n1_
     have HO316 := n2_
     have HO321 := n3_
     have HO324 := n4_
     have HO328 := n5_
     have BK303 := n6_
     have BK304 := n7_
     have BK325 := n8_
     have BK329 := n9_
     have HB := n10_
     clear n0_ n1_ n2_ n3_ n4_ n5_ n6_ n7_ n8_ n9_ n10_
     refine start_ (n := 5) (S := fun w' => w'.cell? ⟨gb325, 0, none⟩ = some (.int .i64 t318) ∧ w'.cell? ⟨gb325, 1, none⟩ = some (.slice Ao166 t319.length co166) ∧ w'.cell? ⟨gb325, 2, none⟩ = some (.slice Ao167 t322.length co167) ∧ w'.cell? ⟨gb303, 0, none⟩ = some (.int .i64 a0_0) ∧ w'.cell? ⟨gb303, 1, none⟩ = some (.slice A0_1 l0_1.length c0_1) ∧ w'.cell? ⟨gb303, 2, none⟩ = some (.slice A0_2 l0_2.length c0_2)) (ds := []) bq_50 (by kernel_rfl) rfl rfl ⟨(blk_cell BK325.out 0).trans rfl, (blk_cell BK325.out 1).trans rfl, (blk_cell BK325.out 2).trans rfl, (blk_cell BK303.out 0).trans rfl, (blk_cell BK303.out 1).trans rfl, (blk_cell BK303.out 2).trans rfl⟩ (fun hHeld => ?_)
     generalize w177.drew = w178 at HO310 HO313 HO316 HO321 HO324 HO328 BK303 BK304 BK325 BK329 HB hHeld ⊢
     refine take_ (i := 0) (N := some 35) (v := ?_) (a' := ?_) bq_51 rfl rfl (by kernel_rfl) (fun _ _ _ h => h) (Or.inl ⟨by rfl, ?_⟩) hHeld ?_ ?_
     rotate_left
     ·rintro w' ⟨s0, s1, s2, s3, s4, s5⟩
      go_simp
      with_reducible rfl
     rotate_left
     ·simp only [Act.put, List.setIfInBounds_toArray, List.set_cons_zero, List.set_cons_succ, i64_w, i32_w]
      rfl
     refine take_ (i := 1) (N := some 36) (v := ?_) (a' := ?_) bq_52 rfl rfl (by kernel_rfl) (fun _ _ _ h => h) (Or.inl ⟨by rfl, ?_⟩) hHeld ?_ ?_
     rotate_left
     ·rintro w' ⟨s0, s1, s2, s3, s4, s5⟩
      go_simp
      with_reducible rfl
     rotate_left
     ·simp only [Act.put, List.setIfInBounds_toArray, List.set_cons_zero, List.set_cons_succ, i64_w, i32_w]
      rfl
     refine one_ (i := 2) (N := some 37) bq_53 rfl rfl (by kernel_rfl) (by decide) (fun K hK => ?_)
     refine goes_ Try.func55 (by kernel_rfl) rfl #[.agg #[.int .i64 a0_0, .slice A0_1 l0_1.length c0_1, .slice A0_2 l0_2.length c0_2]] (by rfl) rfl rfl tq_1 ?_
     with_reducible refine (laws_toPart.calls k a0_0 _ _ l0_1 _ _ l0_2 t331 t332 t335 _ ?side1 ?side2 ?side3 ?side4 A58.out).mono ?_
     (case side1 => exact tq_6)
     (case side2 => exact HC0_1.out)
     (case side3 => exact tq_7)
     (case side4 => exact HC0_2.out)
     rintro e w179 ⟨v333, v336, rfl, ho0, ho1, hb⟩
     refine ⟨_, rfl, ?_⟩
     have n0_ := Aside0.mk (Kd.R_elder' tq_13 (Kd.R_base ho0) hb)
     have n1_ := Aside0.mk (Kd.S_elder' tq_12 (Kd.S_base ho1) hb)
     have n2_ := Aside0.mk (Kd.R_below tq_23 hb)
     have n3_ := Aside0.mk (Kd.R_elder' tq_26 (Kd.R_base ho0) hb)
     have n4_ := Aside0.mk (Kd.S_elder' tq_25 (Kd.S_base ho1) hb)
     have n5_ := Aside0.mk (Kd.R_below tq_36 hb)
     have n6_ := Aside0.mk (Kd.R_lower (Kd.R_new' (Kd.R_new' ho0 (Kd.R_lt tq_13)) (Kd.R_lt tq_26)) (below_size tq_8))
     have n7_ := Aside0.mk (Kd.S_lower (Kd.S_new' (Kd.S_new' ho1 (Kd.S_lt tq_12)) (Kd.S_lt tq_25)) (below_size tq_8))
     have n8_ := Aside0.mk (blk_below tq_3 hb)
     have n9_ := Aside0.mk (blk_below tq_5 hb)
     have n10_ := Aside0.mk (blk_below tq_24 hb)
     have n11_ := Aside0.mk (blk_below tq_45 hb)
     have n12_ := Aside0.mk (below_step tq_8 hb)
     clear HO310 HO313 HO316 HO321 HO324 HO328 BK303 BK304 BK325 BK329 HB
     have HO310 := n0_
     have HO313 := n1_
     have HO316 := n2_
     have HO321 := n3_
     have HO324 := n4_
     have HO328 := n5_
     have HO334 := n6_
     have HO337 := n7_
     have BK303 := n8_
     have BK304 := n9_
     have BK325 := n10_
     have BK329 := n11_
     have HB := n12_
     clear n0_ n1_ n2_ n3_ n4_ n5_ n6_ n7_ n8_ n9_ n10_ n11_ n12_
     (try clear hb)
     (try clear hb2)
     (try clear hk)
     (try clear hi)
     (try clear ho0)
     (try clear ho1)
     obtain ⟨Ao180, co180, eo180⟩ := Kd.R_slice HO334.out
     (first | subst eo180 | (injection eo180 with f1_ f2_ f3_; have f4_ := f1_.symm; have f5_ := f3_.symm; clear f1_ f2_ f3_; subst f4_; subst f5_))
     obtain ⟨Ao181, co181, eo181⟩ := Kd.S_slice HO337.out
     (first | subst eo181 | (injection eo181 with f1_ f2_ f3_; have f4_ := f1_.symm; have f5_ := f3_.symm; clear f1_ f2_ f3_; subst f4_; subst f5_))
     refine hK.out _ _ ⟨(blk_cell BK325.out 0).trans rfl, (blk_cell BK325.out 1).trans rfl, (blk_cell BK325.out 2).trans rfl, (blk_cell BK303.out 0).trans rfl, (blk_cell BK303.out 1).trans rfl, (blk_cell BK303.out 2).trans rfl⟩ (fun hHeld => ?_)
     clear hK K
     refine norm_ (a' := ?_) ?_ ?_
     rotate_left
     ·show Act.put _ (some 37) _ = _
      simp only [Act.put, List.setIfInBounds_toArray, List.set_cons_zero, List.set_cons_succ, i64_w, i32_w]
      rfl
     refine one_ (i := 3) (N := some 38) bq_54 rfl rfl (by kernel_rfl) (by decide) (fun K hK => ?_)
     refine goes_ Try.func50 (by kernel_rfl) rfl #[.agg #[.int .i64 t318, .slice Ao166 t319.length co166, .slice Ao167 t322.length co167], .agg #[.int .i64 t331, .slice Ao180 t332.length co180, .slice Ao181 t335.length co181]] (by rfl) rfl rfl tq_1 ?_
     with_reducible refine (laws_eqPart.calls k t318 _ _ t319 _ _ t322 t331 _ _ t332 _ _ t335 false _ ?side1 ?side2 ?side3 ?side4 ?side5 ?side6 ?side7 ?side8 A59.out).mono ?_
     (case side1 => exact tq_109)
     (case side2 => exact (Kd.R_reads' HO321.out).2.1)
     (case side3 => exact tq_107)
     (case side4 => exact (Kd.S_reads' HO324.out).2.1)
     (case side5 => exact tq_108)
     (case side6 => exact (Kd.R_reads' HO334.out).2.1)
     (case side7 => exact tq_106)
     (case side8 => exact (Kd.S_reads' HO337.out).2.1)
     rintro e w182 ⟨rfl, hb⟩
     refine ⟨_, rfl, ?_⟩
     have n0_ := Aside0.mk (Kd.R_below tq_13 hb)
     have n1_ := Aside0.mk (Kd.S_below tq_12 hb)
     have n2_ := Aside0.mk (Kd.R_below tq_23 hb)
     have n3_ := Aside0.mk (Kd.R_below tq_26 hb)
     have n4_ := Aside0.mk (Kd.S_below tq_25 hb)
     have n5_ := Aside0.mk (Kd.R_below tq_36 hb)
     have n6_ := Aside0.mk (Kd.R_below tq_64 hb)
     have n7_ := Aside0.mk (Kd.S_below tq_63 hb)
     have n8_ := Aside0.mk (blk_below tq_3 hb)
     have n9_ := Aside0.mk (blk_below tq_5 hb)
     have n10_ := Aside0.mk (blk_below tq_24 hb)
     have n11_ := Aside0.mk (blk_below tq_45 hb)
     have n12_ := Aside0.mk (below_step tq_8 hb)
     clear HO310 HO313 HO316 HO321 HO324 HO328 HO334 HO337 BK303 BK304 BK325 BK329 HB
     have HO310 := n0_
     have HO313 := n1_
     have HO316 := n2_
     have HO321 := n3_
     have HO324 := n4_
     have HO328 := n5_
     have HO334 := n6_
     have HO337 := n7_
     have BK303 := n8_
     have BK304 := n9_
     have BK325 := n10_
     have BK329 := n11_
     have HB := n12_
     clear n0_ n1_ n2_ n3_ n4_ n5_ n6_ n7_ n8_ n9_ n10_ n11_ n12_
     (try clear hb)
     (try clear hb2)
     (try clear hk)
     (try clear hi)
     refine hK.out _ _ ⟨(blk_cell BK325.out 0).trans rfl, (blk_cell BK325.out 1).trans rfl, (blk_cell BK325.out 2).trans rfl, (blk_cell BK303.out 0).trans rfl, (blk_cell BK303.out 1).trans rfl, (blk_cell BK303.out 2).trans rfl⟩ (fun hHeld => ?_)
     clear hK K
     refine norm_ (a' := ?_) ?_ ?_
     rotate_left
     ·show Act.put _ (some 38) _ = _
      simp only [Act.put, List.setIfInBounds_toArray, List.set_cons_zero, List.set_cons_succ, i64_w, i32_w]
      rfl
     refine yq_ (i := 4) (N := some 39) bq_55 (by kernel_rfl) ?_
     refine done_ (by kernel_rfl) ?_
     try go_wp2
     go_ret
     exact ⟨by first | rfl | (simp [errW_none, errW_some] <;> rfl) | (simp [*, errW_none, errW_some] <;> rfl), by repeat (first | (with_reducible first | exact HB.out | apply below_alloc | apply pw_below_drewN | apply below_drew1 | refine below_set ?_ GE303.out | refine below_set ?_ GE304.out | refine below_set ?_ GE325.out | refine below_set ?_ GE329.out) | exact HB.out)⟩

end Go.Proofs.Ytcdnfkoahajhhaa.PFnExactFits
