/- Contracts of Go functions, written by a program of ours over the print of the kit: each says that the call returns what the Lean function beside it computes. Conditions: as each theorem states them. -/
import Derived.Test.YtmddplifammohaaDoorPkFnExactMovedItems
import Derived.Test.YtmddplifammohaaDoorPFnExactMovedItemsx0
import Derived.Test.YtmddplifammohaaDoorPFnExactMovedItemsx1
import Derived.Test.YtmddplifammohaaDoorPFnExactMovedItemsx3
import Derived.Test.YtmddplifammohaaDoorPFnExactMovedItemsx4
import Derived.Test.YtmddplifammohaaDoorPFnExactMovedItemsx9
import Derived.Test.YtmddplifammohaaDoorPFnExactMovedItemsx10
import Derived.Test.YtmddplifammohaaDoorPFnExactMovedItemsx11
namespace Go.Proofs.YtmddplifammohaaDoor.PFnExactMovedItems
open Go.RowKit Go.Proofs.YtmddplifammohaaDoorW.PrintWords Go.Proofs.YtmddplifammohaaDoorW.PrintLast Go.Proofs.YtmddplifammohaaDoorW.PrintMore
attribute [local go_sem] max2_int min2_int max_two min_two max_three min_three max_four min_four   -- for this text's walks alone
set_option linter.unusedVariables false
set_option linter.unusedSimpArgs false

/-! ### laws_FnExactMovedItems: function 3 -/
def laws_FnExactMovedItems.j0 : Nat → ByteArray → ByteArray → Bool → List (S46) → List (S36) → List (S36) → Option (Bool)
 | 0, _, _, _, _, _, _ => none
 | k + 1, x1, x2, x56, x326000, x334000, x342000 => if x56 = true then (some false) else ((laws_markView.f k x342000 1).bind fun bt350 => ((laws_heldView.f k bt350.2 1).bind fun t352 => (if t352 < 0 then (some false) else (if t352 = bt350.1 then ((laws_toView.f k x326000).bind fun t353 => ((impl_MovedItems.f k t353 x1 x2).bind fun t356 => ((laws_eqView.f k t356 x334000).bind fun t360 => (if t360 = true then ((laws_heldView.f k bt350.2 1).bind fun t361 => (if t361 < 0 then (some false) else (if t361 = bt350.1 then (some true) else (some false)))) else (some false))))) else (some false)))))
def laws_FnExactMovedItems.f (k : Nat) (l0_0 : List (S46)) (a1 : ByteArray) (a2 : ByteArray) : Option (Bool) := if (a1.size : Int) > 1048576 then (some true) else (if (a2.size : Int) > 1048576 then (some true) else ((laws_szView.f k l0_0 1048576).bind fun t326 => (if t326 < 0 then (some true) else ((laws_toView.f k l0_0).bind fun t327 => ((spec_MovedItems.f k t327 a1 a2).bind fun t330 => ((laws_toView.f k l0_0).bind fun t334 => ((impl_MovedItems.f k t334 a1 a2).bind fun t338 => ((laws_eqView.f k t338 t330).bind fun t342 => (if t342 = true then ((laws_toView.f k l0_0).bind fun t343 => ((laws_eqView.f k t334 t343).bind fun t346 => (if t346 = true then ((laws_markView.f k t334 1).bind fun bt347 => (if bt347.1 < 0 then (laws_FnExactMovedItems.j0 k a1 a2 true l0_0 t330 t338) else ((laws_eqView.f k t338 t330).bind fun t349 => (laws_FnExactMovedItems.j0 k a1 a2 (!t349) l0_0 t330 t338)))) else (some false)))) else (some false))))))))))
theorem laws_FnExactMovedItems.mono_l : ∀ k, (∀ y0 y1 y2 y3 y4 y5, LeO (laws_FnExactMovedItems.j0 k y0 y1 y2 y3 y4 y5) (laws_FnExactMovedItems.j0 (k + 1) y0 y1 y2 y3 y4 y5))
 | 0 => fun _ _ _ _ _ _ r h => by simp [laws_FnExactMovedItems.j0] at h
 | k + 1 => by
  have ih0 := laws_FnExactMovedItems.mono_l k
  ·intro y0 y1 y2 y3 y4 y5
   unfold laws_FnExactMovedItems.j0
   repeat' first
   | (with_reducible exact ih0 ..)
   | (with_reducible exact impl_MovedItems.mono ..)
   | (with_reducible exact laws_eqView.mono ..)
   | (with_reducible exact laws_heldView.mono ..)
   | (with_reducible exact laws_markView.mono ..)
   | (with_reducible exact laws_szView.mono ..)
   | (with_reducible exact laws_toView.mono ..)
   | (with_reducible exact spec_MovedItems.mono ..)
   | (with_reducible exact LeO.refl _)
   | (with_reducible exact LeO.none _)
   | (with_reducible refine LeO.ite ?_ ?_)
   | (with_reducible refine LeO.bind ?_ (fun _ => ?_))
   | exact ih0 ..
   | exact impl_MovedItems.mono ..
   | exact laws_eqView.mono ..
   | exact laws_heldView.mono ..
   | exact laws_markView.mono ..
   | exact laws_szView.mono ..
   | exact laws_toView.mono ..
   | exact spec_MovedItems.mono ..
   | exact LeO.none _
   | refine LeO.ite ?_ ?_
   | refine LeO.bind ?_ (fun _ => ?_)
theorem laws_FnExactMovedItems.mono : ∀ a0 a1 a2 k, LeO (laws_FnExactMovedItems.f k a0 a1 a2) (laws_FnExactMovedItems.f (k + 1) a0 a1 a2) := by
 intro a0 a1 a2 k
 have ih0 := laws_FnExactMovedItems.mono_l k
 unfold laws_FnExactMovedItems.f
 repeat' first
   | (with_reducible exact ih0 ..)
   | (with_reducible exact impl_MovedItems.mono ..)
   | (with_reducible exact laws_eqView.mono ..)
   | (with_reducible exact laws_heldView.mono ..)
   | (with_reducible exact laws_markView.mono ..)
   | (with_reducible exact laws_szView.mono ..)
   | (with_reducible exact laws_toView.mono ..)
   | (with_reducible exact spec_MovedItems.mono ..)
   | (with_reducible exact LeO.refl _)
   | (with_reducible exact LeO.none _)
   | (with_reducible refine LeO.ite ?_ ?_)
   | (with_reducible refine LeO.bind ?_ (fun _ => ?_))
   | exact ih0 ..
   | exact impl_MovedItems.mono ..
   | exact laws_eqView.mono ..
   | exact laws_heldView.mono ..
   | exact laws_markView.mono ..
   | exact laws_szView.mono ..
   | exact laws_toView.mono ..
   | exact spec_MovedItems.mono ..
   | exact LeO.none _
   | refine LeO.ite ?_ ?_
   | refine LeO.bind ?_ (fun _ => ?_)
set_option maxHeartbeats 8000000 in
set_option maxRecDepth 100000 in
theorem laws_FnExactMovedItems.calls (k : Nat) (A0_0 : Option Addr) (c0_0 : Nat) (l0_0 : List (S46)) (a1 : ByteArray) (a2 : ByteArray) (r : Bool) (w : World) (hD_ : DoorOk w) (hr0_0 : Kd.C k46 w A0_0 l0_0.length l0_0) (hc0_0 : l0_0.length ≤ c0_0) (h : laws_FnExactMovedItems.f k l0_0 a1 a2 = some r) :
  Calls Tryd.prog 3 #[.agg #[.slice A0_0 l0_0.length c0_0], .string a1, .string a2] w fun e w' => e = .returned (.bool r) ∧ Below w.heap.size w w' := by
 have hu24 := Tryd.underlying24
 have hu28 := Tryd.underlying28
 have HR0_0 := Aside0.mk hr0_0
 have HC0_0 := Aside0.mk hc0_0
 clear hr0_0 hc0_0
 have HD := Aside0.mk hD_
 clear hD_
 have HB := Aside0.mk (Below.refl w.heap.size w)
 unfold laws_FnExactMovedItems.f at h
 have H := h
 clear h
 have HC4 := Aside0.mk H
 clear H
 go_enter Tryd.func3, Tryd.ntmps3
 go_upto_if 17 with (first | ((with_reducible refine gate_dst (N := 3) rfl ?_); refine be_ 3 (cs := #[.slice A0_0 l0_0.length c0_0]) 24 ?_; intro gb325 hg w5 hbox hb; have z_ := bx0_ th_ hb hbox hg; clear HB; obtain ⟨HB, BK325, GW325, GE325⟩ := z_; clear hb hbox hg))
 (try simp only [Act.put, List.setIfInBounds_toArray, List.set_cons_zero, List.set_cons_succ])
 have H := HC4.out
 clear HC4
 by_cases c6 : (a1.size : Int) > 1048576
 ·rw [if_pos c6] at H
  have c6b0 := decide_eq_true c6
  have c6b1 : decide (1048576 < a1.size) = true := decide_eq_true (by omega)
  clear c6
  (first | rw [c6b0] | (simp only [i64_w, i32_w]; rw [c6b0]) | skip)
  obtain rfl := Option.some.inj H
  go_wp2
  go_ret
  exact ⟨tq_3, th_⟩
 rw [if_neg c6] at H
 have c6b0 := decide_eq_false c6
 have c6b1 : decide (1048576 < a1.size) = false := decide_eq_false (by omega)
 clear c6
 (first | rw [c6b0] | (simp only [i64_w, i32_w]; rw [c6b0]) | skip)
 by_cases c7 : (a2.size : Int) > 1048576
 ·rw [if_pos c7] at H
  have c7b0 := decide_eq_true c7
  have c7b1 : decide (1048576 < a2.size) = true := decide_eq_true (by omega)
  clear c7
  obtain rfl := Option.some.inj H
  go_wp2
  go_ret
  exact ⟨tq_3, th_⟩
 rw [if_neg c7] at H
 have c7b0 := decide_eq_false c7
 have c7b1 : decide (1048576 < a2.size) = false := decide_eq_false (by omega)
 clear c7
 obtain ⟨t326, A8, H⟩ := bd_ H
 have HC9 := Aside0.mk H
 clear H
 have hcz10_0 := bc_ BK325.out 0
 have hfz10_0 := blk_frozen BK325.out 0
 go_upto_if 25 with (first | ((with_reducible refine gate_callee (f := 4) rfl ?_); refine goesL_ (some 23) rfl rfl Tryd.func4 (by kernel_rfl) rfl #[.agg #[.slice A0_0 l0_0.length c0_0], .int .i64 1048576] rfl tq_2 ?_; (with_reducible refine (laws_szView.calls k _ _ l0_0 1048576 t326 _ ?side1 ?side2 A8.out).mono ?_); (case side1 => exact tq_5); (case side2 => exact HC0_0.out); rintro e w11 ⟨rfl, hb⟩; refine ⟨_, rfl, ?_⟩; have z_ := bw1_ (kb_ BK325) th_ hb; clear BK325 HB; obtain ⟨BK325, HB⟩ := z_; (try clear hb)))
 (try simp only [Act.put, List.setIfInBounds_toArray, List.set_cons_zero, List.set_cons_succ])
 (try clear hcz10_0)
 (try clear hfz10_0)
 have H := HC9.out
 clear HC9
 by_cases c12 : t326 < 0
 ·rw [if_pos c12] at H
  have c12b0 := decide_eq_true c12
  clear c12
  (first | rw [c12b0] | (simp only [i64_w, i32_w]; rw [c12b0]) | skip)
  obtain rfl := Option.some.inj H
  go_wp2
  go_ret
  exact ⟨tq_3, th_⟩
 rw [if_neg c12] at H
 have c12b0 := decide_eq_false c12
 clear c12
 (first | rw [c12b0] | (simp only [i64_w, i32_w]; rw [c12b0]) | skip)
 obtain ⟨t327, A13, H⟩ := bd_ H
 obtain ⟨t330, A14, H⟩ := bd_ H
 obtain ⟨t334, A15, H⟩ := bd_ H
 obtain ⟨t338, A16, H⟩ := bd_ H
 obtain ⟨t342, A17, H⟩ := bd_ H
 have HC18 := Aside0.mk H
 clear H
 have hcz19_0 := bc_ BK325.out 0
 have hfz19_0 := blk_frozen BK325.out 0
 go_upto_if 40 with (first | ((with_reducible refine gate_callee (f := 6) rfl ?_); refine goesL_ (some 27) rfl rfl Tryd.func6 (by kernel_rfl) rfl #[.agg #[.slice A0_0 l0_0.length c0_0]] rfl tq_2 ?_; (with_reducible refine (laws_toView.calls k _ _ l0_0 t327 _ ?side1 ?side2 A13.out).mono ?_); (case side1 => exact tq_5); (case side2 => exact HC0_0.out); rintro e w20 ⟨v328, rfl, ho0, hb⟩; refine ⟨_, rfl, ?_⟩; have z_ := p_ (Kd.R_lower ho0 (below_size th_)) <| bw1_ (kb_ BK325) th_ hb; clear BK325 HB; obtain ⟨HO329, BK325, HB⟩ := z_; (try clear hb); (try clear ho0); obtain ⟨Ao21, co21, eo21⟩ := Kd.R_slice HO329.out; subst eo21) | ((with_reducible refine gate_callee (f := 5) rfl ?_); refine goesL_ (some 30) rfl rfl Tryd.func5 (by kernel_rfl) rfl #[.agg #[.slice Ao21 t327.length co21], .string a1, .string a2] rfl tq_2 ?_; (with_reducible refine (spec_MovedItems.calls k _ _ t327 a1 a2 t330 _ ?side1 ?side2 A14.out).mono ?_); (case side1 => repeat (first | exact (Kd.R_reads' HO329.out).2.2 | (with_reducible refine Kd.C_alloc ?_ _) | (with_reducible refine Kd.C_drewN ?_ _) | (with_reducible refine Kd.C_drew ?_))); (case side2 => exact (Kd.R_reads' HO329.out).2.1); rintro e w22 ⟨v331, rfl, ho0, hb⟩; refine ⟨_, rfl, ?_⟩; have z_ := p_ (Kd.R_elder' (raR_ HO329) (Kd.R_base ho0) hb) <| p_ (Kd.R_lower (Kd.R_new' ho0 (Kd.R_lt (raR_ HO329))) (below_size th_)) <| bw1_ (kb_ BK325) th_ hb; clear HO329 BK325 HB; obtain ⟨HO329, HO332, BK325, HB⟩ := z_; (try clear hb); (try clear ho0)) | ((with_reducible refine gate_dst (N := 8) rfl ?_); refine be_ 8 (cs := #[.slice none 0 0]) 28 ?_; intro gb333 hg w23 hbox hb; have z_ := p_ (Kd.R_below (raR_ HO329) hb) <| p_ (Kd.R_below (raR_ HO332) hb) <| bx1_ (kb_ BK325) th_ hb hbox hg; clear HO329 HO332 BK325 HB; obtain ⟨HO329, HO332, BK325, HB, BK333, GW333, GE333, NB325_333, NB333_325⟩ := z_; clear hb hbox hg; obtain ⟨Ao24, co24, eo24⟩ := Kd.R_slice HO332.out; subst eo24; obtain ⟨n333_325, n325_333⟩ := an2_ NB333_325 NB325_333; have hcz26_0 := bc_ BK333.out 0; have hfz26_0 := blk_frozen BK333.out 0; have hcz27_0 := bc_ BK325.out 0; have hfz27_0 := blk_frozen BK325.out 0) | ((with_reducible refine gate_callee (f := 6) rfl ?_); refine goesL_ (some 32) rfl rfl Tryd.func6 (by kernel_rfl) rfl #[.agg #[.slice A0_0 l0_0.length c0_0]] rfl tq_2 ?_; (with_reducible refine (laws_toView.calls k _ _ l0_0 t334 _ ?side1 ?side2 A15.out).mono ?_); (case side1 => exact Kd.C_below HR0_0.out th_); (case side2 => exact HC0_0.out); rintro e w28 ⟨v335, rfl, ho0, hb⟩; refine ⟨_, rfl, ?_⟩; have z_ := p_ (Kd.R_elder' tq_44 (Kd.R_base ho0) hb) <| p_ (Kd.R_elder' tq_42 (Kd.R_base ho0) hb) <| p_ (Kd.R_lower (Kd.R_new' (Kd.R_new' ho0 (Kd.R_lt tq_44)) (Kd.R_lt tq_42)) (below_size th_)) <| p_ (blk_below (g := gb325) (o := .cells #[.slice A0_0 l0_0.length c0_0] 24 (0, 0)) (by (with_reducible repeat (first | refine blk_drewN ?_ _ | refine blk_drew ?_ | refine blk_alloc ?_ _)); refine blk_far ?_ NB325_333.out _; (with_reducible repeat (first | refine blk_drewN ?_ _ | refine blk_drew ?_ | refine blk_alloc ?_ _)); exact BK325.out) hb) <| p_ (blk_below (g := gb333) (o := .cells #[.slice Ao24 t330.length co24] 28 (0, 0)) (by (with_reducible repeat (first | refine blk_drewN ?_ _ | refine blk_drew ?_ | refine blk_alloc ?_ _)); refine blk_put (cs := #[.slice none 0 0]) ?_ 0 _ rfl; (with_reducible repeat (first | refine blk_drewN ?_ _ | refine blk_drew ?_ | refine blk_alloc ?_ _)); exact BK333.out) hb) <| a_ (below_step th_ hb); clear HO329 HO332 BK325 BK333 HB; obtain ⟨HO329, HO332, HO336, BK325, BK333, HB⟩ := z_; (try clear hb); (try clear hk); (try clear ho0)) | ((with_reducible refine gate_dst (N := 9) rfl ?_); refine be_ 9 (cs := #[.slice none 0 0]) 28 ?_; intro gb337 hg w29 hbox hb; have z_ := p_ (Kd.R_below (raR_ HO329) hb) <| p_ (Kd.R_below (raR_ HO332) hb) <| p_ (Kd.R_below (raR_ HO336) hb) <| bx2_ (kb_ BK325) (kb_ BK333) th_ hb hbox hg; clear HO329 HO332 HO336 BK325 BK333 HB; obtain ⟨HO329, HO332, HO336, BK325, BK333, HB, BK337, GW337, GE337, NB325_337, NB337_325, NB333_337, NB337_333⟩ := z_; clear hb hbox hg; obtain ⟨Ao30, co30, eo30⟩ := Kd.R_slice HO336.out; subst eo30; obtain ⟨n337_325, n325_337, n337_333, n333_337⟩ := an4_ NB337_325 NB325_337 NB337_333 NB333_337; have hcz33_0 := bc_ BK337.out 0; have hfz33_0 := blk_frozen BK337.out 0) | ((with_reducible refine gate_callee (f := 7) rfl ?_); refine goesL_ (some 36) rfl rfl Tryd.func7 (by kernel_rfl) rfl #[.agg #[.slice Ao30 t334.length co30], .string a1, .string a2] rfl tq_2 ?_; (with_reducible refine (impl_MovedItems.calls k _ _ t334 a1 a2 t338 _ ?side1 ?side2 ?side3 A16.out).mono ?_); (case side1 => exact DoorOk.below HD.out th_); (case side2 => refine (Kd.R_reads' (e := 36) (base := w.heap.size) (ok := fun k_ => ((True ∧ some k_ ≠ (.slice Ao21 t327.length co21 : Value).ownBlock) ∧ some k_ ≠ (.slice Ao24 t330.length co24 : Value).ownBlock)) (n := t334.length) (c := co30) ?_).2.2; exact tq_23); (case side3 => exact (Kd.R_reads' HO336.out).2.1); rintro e w34 ⟨v339, rfl, ho0, hb⟩; refine ⟨_, rfl, ?_⟩; have z_ := p_ (Kd.R_elder' tq_43 (Kd.R_base ho0) hb) <| p_ (Kd.R_elder' tq_41 (Kd.R_base ho0) hb) <| p_ (Kd.R_elder' tq_23 (Kd.R_base ho0) hb) <| p_ (Kd.R_lower (Kd.R_new' (Kd.R_new' (Kd.R_new' ho0 (Kd.R_lt tq_43)) (Kd.R_lt tq_41)) (Kd.R_lt tq_23)) (below_size th_)) <| p_ (blk_below (g := gb325) (o := .cells #[.slice A0_0 l0_0.length c0_0] 24 (0, 0)) (by (with_reducible repeat (first | refine blk_drewN ?_ _ | refine blk_drew ?_ | refine blk_alloc ?_ _)); refine blk_far ?_ NB325_337.out _; (with_reducible repeat (first | refine blk_drewN ?_ _ | refine blk_drew ?_ | refine blk_alloc ?_ _)); exact BK325.out) hb) <| p_ (blk_below (g := gb333) (o := .cells #[.slice Ao24 t330.length co24] 28 (0, 0)) (by (with_reducible repeat (first | refine blk_drewN ?_ _ | refine blk_drew ?_ | refine blk_alloc ?_ _)); refine blk_far ?_ NB333_337.out _; (with_reducible repeat (first | refine blk_drewN ?_ _ | refine blk_drew ?_ | refine blk_alloc ?_ _)); exact BK333.out) hb) <| p_ (blk_below (g := gb337) (o := .cells #[.slice Ao30 t334.length co30] 28 (0, 0)) (by (with_reducible repeat (first | refine blk_drewN ?_ _ | refine blk_drew ?_ | refine blk_alloc ?_ _)); refine blk_put (cs := #[.slice none 0 0]) ?_ 0 _ rfl; (with_reducible repeat (first | refine blk_drewN ?_ _ | refine blk_drew ?_ | refine blk_alloc ?_ _)); exact BK337.out) hb) <| a_ (below_step th_ hb); clear HO329 HO332 HO336 BK325 BK333 BK337 HB; obtain ⟨HO329, HO332, HO336, HO340, BK325, BK333, BK337, HB⟩ := z_; (try clear hb); (try clear hk); (try clear ho0)) | ((with_reducible refine gate_dst (N := 10) rfl ?_); refine be_ 10 (cs := #[.slice none 0 0]) 28 ?_; intro gb341 hg w35 hbox hb; have z_ := p_ (Kd.R_below (raR_ HO329) hb) <| p_ (Kd.R_below (raR_ HO332) hb) <| p_ (Kd.R_below (raR_ HO336) hb) <| p_ (Kd.R_below (raR_ HO340) hb) <| bx3_ (kb_ BK325) (kb_ BK333) (kb_ BK337) th_ hb hbox hg; clear HO329 HO332 HO336 HO340 BK325 BK333 BK337 HB; obtain ⟨HO329, HO332, HO336, HO340, BK325, BK333, BK337, HB, BK341, GW341, GE341, NB325_341, NB341_325, NB333_341, NB341_333, NB337_341, NB341_337⟩ := z_; clear hb hbox hg; obtain ⟨Ao36, co36, eo36⟩ := Kd.R_slice HO340.out; subst eo36; obtain ⟨n341_325, n325_341, n341_333, n333_341, n341_337, n337_341⟩ := an6_ NB341_325 NB325_341 NB341_333 NB333_341 NB341_337 NB337_341; have hcz40_0 := bc_ BK341.out 0; have hfz40_0 := blk_frozen BK341.out 0; have hcz41_0 := bc_ BK333.out 0; have hfz41_0 := blk_frozen BK333.out 0) | ((with_reducible refine gate_callee (f := 8) rfl ?_); refine goesL_ (some 39) rfl rfl Tryd.func8 (by kernel_rfl) rfl #[.agg #[.slice Ao36 t338.length co36], .agg #[.slice Ao24 t330.length co24]] rfl tq_2 ?_; (with_reducible refine (laws_eqView.calls k _ _ t338 _ _ t330 t342 _ ?side1 ?side2 ?side3 ?side4 A17.out).mono ?_); (case side1 => refine (Kd.R_reads' (e := 36) (base := w.heap.size) (ok := fun k_ => (((True ∧ some k_ ≠ (.slice Ao21 t327.length co21 : Value).ownBlock) ∧ some k_ ≠ (.slice Ao24 t330.length co24 : Value).ownBlock) ∧ some k_ ≠ (.slice Ao30 t334.length co30 : Value).ownBlock)) (n := t338.length) (c := co36) ?_).2.2; exact tq_39); (case side2 => exact (Kd.R_reads' HO340.out).2.1); (case side3 => refine (Kd.R_reads' (e := 36) (base := w.heap.size) (ok := fun k_ => (((True ∧ some k_ ≠ (.slice Ao21 t327.length co21 : Value).ownBlock) ∧ some k_ ≠ (.slice Ao30 t334.length co30 : Value).ownBlock) ∧ some k_ ≠ (.slice Ao36 t338.length co36 : Value).ownBlock)) (n := t330.length) (c := co24) ?_).2.2; exact tq_40); (case side4 => exact (Kd.R_reads' HO332.out).2.1); rintro e w42 ⟨rfl, hb⟩; refine ⟨_, rfl, ?_⟩; have z_ := p_ (Kd.R_below (by (with_reducible repeat (first | apply Kd.R_alloc | apply Kd.R_drewN | apply Kd.R_drew)); exact (Kd.R_mono (rR_ (Kd.R_types HO329.out BK341.out (by decide))) (fun _ h_ => h_.1))) hb) <| p_ (Kd.R_below tq_40 hb) <| p_ (Kd.R_below (by (with_reducible repeat (first | apply Kd.R_alloc | apply Kd.R_drewN | apply Kd.R_drew)); exact (Kd.R_mono (rR_ (Kd.R_types HO336.out BK341.out (by decide))) (fun _ h_ => h_.1))) hb) <| p_ (Kd.R_below tq_39 hb) <| p_ (blk_below (g := gb325) (o := .cells #[.slice A0_0 l0_0.length c0_0] 24 (0, 0)) (by (with_reducible repeat (first | refine blk_drewN ?_ _ | refine blk_drew ?_ | refine blk_alloc ?_ _)); refine blk_far ?_ NB325_341.out _; (with_reducible repeat (first | refine blk_drewN ?_ _ | refine blk_drew ?_ | refine blk_alloc ?_ _)); exact BK325.out) hb) <| p_ (blk_below (g := gb333) (o := .cells #[.slice Ao24 t330.length co24] 28 (0, 0)) (by (with_reducible repeat (first | refine blk_drewN ?_ _ | refine blk_drew ?_ | refine blk_alloc ?_ _)); refine blk_far ?_ NB333_341.out _; (with_reducible repeat (first | refine blk_drewN ?_ _ | refine blk_drew ?_ | refine blk_alloc ?_ _)); exact BK333.out) hb) <| p_ (blk_below (g := gb337) (o := .cells #[.slice Ao30 t334.length co30] 28 (0, 0)) (by (with_reducible repeat (first | refine blk_drewN ?_ _ | refine blk_drew ?_ | refine blk_alloc ?_ _)); refine blk_far ?_ NB337_341.out _; (with_reducible repeat (first | refine blk_drewN ?_ _ | refine blk_drew ?_ | refine blk_alloc ?_ _)); exact BK337.out) hb) <| p_ (blk_below (g := gb341) (o := .cells #[.slice Ao36 t338.length co36] 28 (0, 0)) (by (with_reducible repeat (first | refine blk_drewN ?_ _ | refine blk_drew ?_ | refine blk_alloc ?_ _)); refine blk_put (cs := #[.slice none 0 0]) ?_ 0 _ rfl; (with_reducible repeat (first | refine blk_drewN ?_ _ | refine blk_drew ?_ | refine blk_alloc ?_ _)); exact BK341.out) hb) <| a_ (below_step th_ hb); clear HO329 HO332 HO336 HO340 BK325 BK333 BK337 BK341 HB; obtain ⟨HO329, HO332, HO336, HO340, BK325, BK333, BK337, BK341, HB⟩ := z_; (try clear hb); (try clear hk)))
 (try simp only [Act.put, List.setIfInBounds_toArray, List.set_cons_zero, List.set_cons_succ])
 (try clear n325_333 n325_337 n325_341 n333_325 n333_337 n333_341 n337_325 n337_333 n337_341 n341_325 n341_333 n341_337)
 (try clear hcz19_0)
 (try clear hcz26_0)
 (try clear hcz27_0)
 (try clear hcz33_0)
 (try clear hcz40_0)
 (try clear hcz41_0)
 (try clear hfz19_0)
 (try clear hfz26_0)
 (try clear hfz27_0)
 (try clear hfz33_0)
 (try clear hfz40_0)
 (try clear hfz41_0)
 have H := HC18.out
 clear HC18 HO329
 have n_ := Aside0.mk (Kd.R_mono (ok' := (fun k_ => some k_ ≠ (.slice Ao30 t334.length co30 : Value).ownBlock ∧ some k_ ≠ (.slice Ao36 t338.length co36 : Value).ownBlock)) HO332.out (fun k_ hk => ⟨hk.1.2, hk.2⟩))
 clear HO332
 have HO332 := n_
 clear n_
 have n_ := Aside0.mk (Kd.R_mono (ok' := (fun k_ => some k_ ≠ (.slice Ao24 t330.length co24 : Value).ownBlock ∧ some k_ ≠ (.slice Ao36 t338.length co36 : Value).ownBlock)) HO336.out (fun k_ hk => ⟨hk.1.2, hk.2⟩))
 clear HO336
 have HO336 := n_
 clear n_
 have n_ := Aside0.mk (Kd.R_mono (ok' := (fun k_ => some k_ ≠ (.slice Ao24 t330.length co24 : Value).ownBlock ∧ some k_ ≠ (.slice Ao30 t334.length co30 : Value).ownBlock)) HO340.out (fun k_ hk => ⟨hk.1.2, hk.2⟩))
 clear HO340
 have HO340 := n_
 clear n_
 by_cases c43 : t342 = true
 rotate_left
 ·replace c43 := Bool.eq_false_iff.mpr c43
  subst c43
  rw [if_neg nf_] at H
  obtain rfl := Option.some.inj H
  go_wp2
  go_ret
  exact ⟨tq_3, th_⟩
 subst c43
 rw [if_pos rfl] at H
 obtain ⟨t343, A44, H⟩ := bd_ H
 obtain ⟨t346, A45, H⟩ := bd_ H
 have HC46 := Aside0.mk H
 clear H
 try go_wp2
 have z_ := p_ (Kd.R_drew HO332.out) <| p_ (Kd.R_drew HO336.out) <| p_ (Kd.R_drew HO340.out) <| dw4_ BK325 BK333 BK337 BK341 HB
 clear HO332 HO336 HO340 BK325 BK333 BK337 BK341 HB
 obtain ⟨HO332, HO336, HO340, BK325, BK333, BK337, BK341, HB⟩ := z_
 refine start_ (n := 5) (S := fun w' => w'.cell? ⟨gb337, 0, none⟩ = some (.slice Ao30 t334.length co30) ∧ w'.cell? ⟨gb325, 0, none⟩ = some (.slice A0_0 l0_0.length c0_0)) (ds := []) #[false, false, false, false, false] (by kernel_rfl) rfl rfl ⟨(blk_cell BK337.out 0).trans rfl, (blk_cell BK325.out 0).trans rfl⟩ (fun hHeld => ?_)
 generalize w42.drew = w47 at HO332 HO336 HO340 BK325 BK333 BK337 BK341 HB hHeld ⊢
 refine take_ (i := 0) (N := some 41) (v := ?_) (a' := ?_) #[true, false, false, false, false] rfl rfl (by kernel_rfl) (fun _ _ _ h => h) (Or.inl ⟨(by rfl), ?_⟩) hHeld ?_ ?_
 rotate_left
 ·rintro w' ⟨s0, s1⟩
  go_simp
  with_reducible rfl
 rotate_left
 ·simp only [Act.put, List.setIfInBounds_toArray, List.set_cons_zero, List.set_cons_succ, i64_w, i32_w]
  rfl
 refine take_ (i := 1) (N := some 42) (v := ?_) (a' := ?_) #[true, true, false, false, false] rfl rfl (by kernel_rfl) (fun _ _ _ h => h) (Or.inl ⟨(by rfl), ?_⟩) hHeld ?_ ?_
 rotate_left
 ·rintro w' ⟨s0, s1⟩
  go_simp
  with_reducible rfl
 rotate_left
 ·simp only [Act.put, List.setIfInBounds_toArray, List.set_cons_zero, List.set_cons_succ, i64_w, i32_w]
  rfl
 refine one_ (i := 2) (N := some 43) #[true, true, true, false, false] rfl rfl (by kernel_rfl) (by decide) (fun K hK => ?_)
 refine goes_ Tryd.func6 (by kernel_rfl) rfl #[.agg #[.slice A0_0 l0_0.length c0_0]] (by rfl) rfl rfl tq_2 ?_
 with_reducible refine (laws_toView.calls k _ _ l0_0 t343 _ ?side1 ?side2 A44.out).mono ?_
 (case side1 => exact tq_5)
 (case side2 => exact HC0_0.out)
 rintro e w48 ⟨v344, rfl, ho0, hb⟩
 refine ⟨_, rfl, ?_⟩
 have z_ := p_ (Kd.R_elder' (raR_ HO332) (Kd.R_base ho0) hb) <| p_ (Kd.R_elder' (raR_ HO336) (Kd.R_base ho0) hb) <| p_ (Kd.R_elder' (raR_ HO340) (Kd.R_base ho0) hb) <| p_ (Kd.R_lower (Kd.R_new' (Kd.R_new' (Kd.R_new' ho0 (Kd.R_lt (raR_ HO332))) (Kd.R_lt (raR_ HO336))) (Kd.R_lt (raR_ HO340))) (below_size th_)) <| bw4_ (kb_ BK325) (kb_ BK333) (kb_ BK337) (kb_ BK341) th_ hb
 clear HO332 HO336 HO340 BK325 BK333 BK337 BK341 HB
 obtain ⟨HO332, HO336, HO340, HO345, BK325, BK333, BK337, BK341, HB⟩ := z_
 (try clear hb)
 (try clear ho0)
 obtain ⟨Ao49, co49, eo49⟩ := Kd.R_slice HO345.out
 (first | subst eo49 | (injection eo49 with f1_ f2_ f3_; have f4_ := f1_.symm; have f5_ := f3_.symm; clear f1_ f2_ f3_; subst f4_; subst f5_))
 refine hK.out _ _ ⟨(blk_cell BK337.out 0).trans rfl, (blk_cell BK325.out 0).trans rfl⟩ (fun hHeld => ?_)
 clear hK K
 refine nm_ (some 43) ?_
 refine one_ (i := 3) (N := some 44) #[true, true, true, true, false] rfl rfl (by kernel_rfl) (by decide) (fun K hK => ?_)
 refine goes_ Tryd.func8 (by kernel_rfl) rfl #[.agg #[.slice Ao30 t334.length co30], .agg #[.slice Ao49 t343.length co49]] (by rfl) rfl rfl tq_2 ?_
 with_reducible refine (laws_eqView.calls k _ _ t334 _ _ t343 t346 _ ?side1 ?side2 ?side3 ?side4 A45.out).mono ?_
 (case side1 => repeat (first | exact (Kd.R_reads' HO336.out).2.2 | (with_reducible refine Kd.C_alloc ?_ _) | (with_reducible refine Kd.C_drewN ?_ _) | (with_reducible refine Kd.C_drew ?_)))
 (case side2 => exact (Kd.R_reads' HO336.out).2.1)
 (case side3 => repeat (first | exact (Kd.R_reads' HO345.out).2.2 | (with_reducible refine Kd.C_alloc ?_ _) | (with_reducible refine Kd.C_drewN ?_ _) | (with_reducible refine Kd.C_drew ?_)))
 (case side4 => exact (Kd.R_reads' HO345.out).2.1)
 rintro e w50 ⟨rfl, hb⟩
 refine ⟨_, rfl, ?_⟩
 have z_ := p_ (Kd.R_below (raR_ HO332) hb) <| p_ (Kd.R_below (raR_ HO336) hb) <| p_ (Kd.R_below (raR_ HO340) hb) <| p_ (Kd.R_below (raR_ HO345) hb) <| bw4_ (kb_ BK325) (kb_ BK333) (kb_ BK337) (kb_ BK341) th_ hb
 clear HO332 HO336 HO340 HO345 BK325 BK333 BK337 BK341 HB
 obtain ⟨HO332, HO336, HO340, HO345, BK325, BK333, BK337, BK341, HB⟩ := z_
 (try clear hb)
 refine hK.out _ _ ⟨(blk_cell BK337.out 0).trans rfl, (blk_cell BK325.out 0).trans rfl⟩ (fun hHeld => ?_)
 clear hK K
 refine nm_ (some 44) ?_
 refine yq_ (i := 4) (N := some 45) #[true, true, true, true, true] (by kernel_rfl) ?_
 refine done_ (by kernel_rfl) ?_
 go_upto_if 45 with (fail)
 have H := HC46.out
 clear HC46
 have n_ := Aside0.mk (Kd.R_mono (ok' := (fun k_ => some k_ ≠ (.slice Ao30 t334.length co30 : Value).ownBlock ∧ some k_ ≠ (.slice Ao36 t338.length co36 : Value).ownBlock)) HO332.out (fun k_ hk => ⟨hk.1.1, hk.1.2⟩))
 clear HO332
 have HO332 := n_
 clear n_
 have n_ := Aside0.mk (Kd.R_mono (ok' := (fun k_ => some k_ ≠ (.slice Ao24 t330.length co24 : Value).ownBlock ∧ some k_ ≠ (.slice Ao36 t338.length co36 : Value).ownBlock)) HO336.out (fun k_ hk => ⟨hk.1.1, hk.1.2⟩))
 clear HO336
 have HO336 := n_
 clear n_
 have n_ := Aside0.mk (Kd.R_mono (ok' := (fun k_ => some k_ ≠ (.slice Ao24 t330.length co24 : Value).ownBlock ∧ some k_ ≠ (.slice Ao30 t334.length co30 : Value).ownBlock)) HO340.out (fun k_ hk => ⟨hk.1.1, hk.1.2⟩))
 clear HO340
 have HO340 := n_
 clear n_ HO345
 by_cases c51 : t346 = true
 rotate_left
 ·replace c51 := Bool.eq_false_iff.mpr c51
  subst c51
  rw [if_neg nf_] at H
  obtain rfl := Option.some.inj H
  go_wp2
  go_ret
  exact ⟨tq_3, th_⟩
 subst c51
 rw [if_pos rfl] at H
 obtain ⟨⟨t347, t348⟩, A52, H⟩ := bd_ H
 try dsimp -simprocs only at H
 have HC53 := Aside0.mk H
 clear H
 obtain ⟨n337_325, n325_337, n337_333, n333_337, n337_341, n341_337⟩ := an6_ NB337_325 NB325_337 NB337_333 NB333_337 NB337_341 NB341_337
 have hcz57_0 := bc_ BK337.out 0
 have hfz57_0 := blk_frozen BK337.out 0
 go_upto_region 18 with (first | ((with_reducible refine gate_callee (f := 9) rfl ?_); refine goesL_ (some 48) rfl rfl Tryd.func9 (by kernel_rfl) rfl #[.agg #[.slice Ao30 t334.length co30], .int .i64 1] rfl tq_2 ?_; (with_reducible refine (laws_markView.calls k (fun k_ => some k_ = (.slice Ao30 t334.length co30 : Value).ownBlock) (.slice Ao30 t334.length co30) t334 1 t347 t348 w _ ?side1 ?side2 A52.out).mono ?_); (case side1 => exact tq_34); (case side2 => exact Kd.R_tight rfl HO336.out); rintro e w58 ⟨rfl, hy0, hb, hkp⟩; refine ⟨_, rfl, ?_⟩; have z_ := p_ (blk_kept (kb_ BK325) hkp (fun hs_ => (fun e_ => (Kd.R_ne HO336.out BK325.out (by decide)) e_) hs_)) <| p_ (Kd.R_mono (ok' := fun k_ => some k_ ≠ (.slice Ao30 t334.length co30 : Value).ownBlock ∧ some k_ ≠ (.slice Ao36 t338.length co36 : Value).ownBlock) (Kd.R_keptB (HO332.out) hkp (fun k_ hk_ hs_ => (hk_.1) hs_)) (fun k_ hk_ => ⟨hk_.1.1, hk_.1.2⟩)) <| p_ (blk_kept (kb_ BK333) hkp (fun hs_ => (fun e_ => (Kd.R_ne HO336.out BK333.out (by decide)) e_) hs_)) <| p_ (Kd.R_reok rfl hy0 (fun k_ e_ => HO336.out.1 k_ e_)) <| p_ (blk_kept (kb_ BK337) hkp (fun hs_ => (fun e_ => (Kd.R_ne HO336.out BK337.out (by decide)) e_) hs_)) <| p_ (Kd.R_mono (ok' := fun k_ => some k_ ≠ (.slice Ao24 t330.length co24 : Value).ownBlock ∧ some k_ ≠ (.slice Ao30 t334.length co30 : Value).ownBlock) (Kd.R_keptB (HO340.out) hkp (fun k_ hk_ hs_ => (hk_.2) hs_)) (fun k_ hk_ => ⟨hk_.1.1, hk_.1.2⟩)) <| p_ (blk_kept (kb_ BK341) hkp (fun hs_ => (fun e_ => (Kd.R_ne HO336.out BK341.out (by decide)) e_) hs_)) <| a_ (hb); clear BK325 HO332 BK333 HO336 BK337 HO340 BK341 HB; obtain ⟨BK325, HO332, BK333, HO336, BK337, HO340, BK341, HB⟩ := z_; (try clear hb); (try clear hkp); (try clear hy0)))
 (try simp only [Act.put, List.setIfInBounds_toArray, List.set_cons_zero, List.set_cons_succ])
 go_cut [56] (fun v56 wc => ∃ (kq : Nat) (x56_52 : Bool), v56 = .bool x56_52 ∧ Aside0 (laws_FnExactMovedItems.j0 kq a1 a2 x56_52 l0_0 t330 t338 = some r) ∧ Aside0 (kq ≤ k) ∧ Aside0 (Kd.R k36 36 wc w.heap.size (fun k_ => some k_ ≠ ((.slice Ao30 t334.length co30) : Value).ownBlock ∧ some k_ ≠ ((.slice Ao36 t338.length co36) : Value).ownBlock) (.slice Ao24 t330.length co24) t330) ∧ Aside0 (Kd.R k36 36 wc w.heap.size (fun k_ => some k_ ≠ ((.slice Ao24 t330.length co24) : Value).ownBlock ∧ some k_ ≠ ((.slice Ao36 t338.length co36) : Value).ownBlock) (.slice Ao30 t334.length co30) t348) ∧ Aside0 (Kd.R k36 36 wc w.heap.size (fun k_ => some k_ ≠ ((.slice Ao24 t330.length co24) : Value).ownBlock ∧ some k_ ≠ ((.slice Ao30 t334.length co30) : Value).ownBlock) (.slice Ao36 t338.length co36) t338) ∧ Aside0 (wc.heap[gb325]? = some (.cells #[(.slice A0_0 l0_0.length c0_0)] 24 (0, 0))) ∧ Aside0 (wc.heap[gb333]? = some (.cells #[(.slice Ao24 t330.length co24)] 28 (0, 0))) ∧ Aside0 (wc.heap[gb337]? = some (.cells #[(.slice Ao30 t334.length co30)] 28 (0, 0))) ∧ Aside0 (wc.heap[gb341]? = some (.cells #[(.slice Ao36 t338.length co36)] 28 (0, 0))) ∧ Aside0 (Below w.heap.size w wc))
 case first =>
  have H := HC53.out
  clear HC53
  by_cases c59 : t347 < 0
  ·rw [if_pos c59] at H
   have c59b0 := decide_eq_true c59
   clear c59
   (first | rw [c59b0] | (simp only [i64_w, i32_w]; rw [c59b0]) | skip)
   have H' := Aside0.mk H
   clear H
   go_wp2
   go_meet
   case rel => exact ⟨_, (true), tq_4, H', ⟨tq_17⟩, ⟨(raR_ HO332)⟩, ⟨(raR_ HO336)⟩, ⟨(raR_ HO340)⟩, ⟨(kb_ BK325)⟩, ⟨(kb_ BK333)⟩, ⟨(kb_ BK337)⟩, ⟨(kb_ BK341)⟩, ⟨th_⟩⟩
  rw [if_neg c59] at H
  have c59b0 := decide_eq_false c59
  clear c59
  (first | rw [c59b0] | (simp only [i64_w, i32_w]; rw [c59b0]) | skip)
  obtain ⟨t349, A60, H⟩ := bd_ H
  have H' := Aside0.mk H
  clear H
  obtain ⟨n341_325, n325_341, n341_333, n333_341⟩ := an4_ NB341_325 NB325_341 NB341_333 NB333_341
  have hcz64_0 := bc_ BK341.out 0
  have hfz64_0 := blk_frozen BK341.out 0
  obtain ⟨n333_325, n325_333⟩ := an2_ NB333_325 NB325_333
  have hcz67_0 := bc_ BK333.out 0
  have hfz67_0 := blk_frozen BK333.out 0
  go_wp2_with (first | (go_at_call 8; (with_reducible refine (laws_eqView.calls k _ _ t338 _ _ t330 t349 _ ?side1 ?side2 ?side3 ?side4 A60.out).mono ?_); (case side1 => repeat (first | exact (Kd.R_reads' HO340.out).2.2 | (with_reducible refine Kd.C_alloc ?_ _) | (with_reducible refine Kd.C_drewN ?_ _) | (with_reducible refine Kd.C_drew ?_))); (case side2 => exact (Kd.R_reads' HO340.out).2.1); (case side3 => repeat (first | exact (Kd.R_reads' HO332.out).2.2 | (with_reducible refine Kd.C_alloc ?_ _) | (with_reducible refine Kd.C_drewN ?_ _) | (with_reducible refine Kd.C_drew ?_))); (case side4 => exact (Kd.R_reads' HO332.out).2.1); rintro e w68 ⟨rfl, hb⟩; have z_ := p_ (Kd.R_below (raR_ HO332) hb) <| p_ (Kd.R_below (raR_ HO336) hb) <| p_ (Kd.R_below (raR_ HO340) hb) <| bw4_ (kb_ BK325) (kb_ BK333) (kb_ BK337) (kb_ BK341) th_ hb; clear HO332 HO336 HO340 BK325 BK333 BK337 BK341 HB; obtain ⟨HO332, HO336, HO340, BK325, BK333, BK337, BK341, HB⟩ := z_; (try clear hb)))
  go_meet
  case rel => exact ⟨_, (!t349), tq_4, H', ⟨tq_17⟩, ⟨(raR_ HO332)⟩, ⟨(raR_ HO336)⟩, ⟨(raR_ HO340)⟩, ⟨(kb_ BK325)⟩, ⟨(kb_ BK333)⟩, ⟨(kb_ BK337)⟩, ⟨(kb_ BK341)⟩, ⟨th_⟩⟩
 case rest =>
 clear HC53
 try clear c1; try clear c2; try clear p2; try clear c3; try clear c4; try clear c5; try clear c6; try clear c6b0; try clear c6b1; try clear c7; try clear c7b0; try clear c7b1; try clear c8; try clear c9; try clear c12; try clear c12b0; try clear c25; try clear c31; try clear c32; try clear c37; try clear c38; try clear c39; try clear c43; try clear c51; try clear c54; try clear c55; try clear c56; try clear c59; try clear c59b0; try clear c61; try clear c62; try clear c63; try clear c65; try clear c66; try clear hcz10_0; try clear hcz19_0; try clear hcz26_0; try clear hcz27_0; try clear hcz33_0; try clear hcz40_0; try clear hcz41_0; try clear hcz57_0; try clear hcz64_0; try clear hcz67_0; try clear hfz10_0; try clear hfz19_0; try clear hfz26_0; try clear hfz27_0; try clear hfz33_0; try clear hfz40_0; try clear hfz41_0; try clear hfz57_0; try clear hfz64_0; try clear hfz67_0
 obtain ⟨kq, x56_52, rfl, HA, HJ52, HO_334000, HO_338000, HO_342000, BK325, BK333, BK337, BK341, HB⟩ := hcut
 have hl338000_52 := (Kd.R_reads' HO_338000.out).1
 rw [hl338000_52] at HO_338000
 (try simp only [hl338000_52])
 (try simp only [hl338000_52] at BK325)
 (try simp only [hl338000_52] at BK333)
 (try simp only [hl338000_52] at BK337)
 (try simp only [hl338000_52] at BK341)
 (try simp only [hl338000_52] at HO_334000)
 (try simp only [hl338000_52] at HO_342000)
 cases kq with
 | zero => exact absurd HA.out (by simp [laws_FnExactMovedItems.j0])
 | succ kj52 =>
 have H := HA.out
 clear HA
 simp only [laws_FnExactMovedItems.j0] at H
 by_cases c69 : x56_52 = true
 ·subst c69
  rw [if_pos rfl] at H
  obtain rfl := Option.some.inj H
  go_wp2
  go_ret
  exact ⟨tq_3, th_⟩
 replace c69 := Bool.eq_false_iff.mpr c69
 subst c69
 rw [if_neg nf_] at H
 obtain ⟨⟨t350, t351⟩, A70, H⟩ := bd_ H
 try dsimp -simprocs only at H
 obtain ⟨t352, A71, H⟩ := bd_ H
 have HC72 := Aside0.mk H
 clear H
 obtain ⟨n341_325, n325_341, n341_333, n333_341⟩ := an4_ NB341_325 NB325_341 NB341_333 NB333_341
 have hcz76_0 := bc_ BK341.out 0
 have hfz76_0 := blk_frozen BK341.out 0
 go_upto_if 64 with (first | ((with_reducible refine gate_callee (f := 9) rfl ?_); refine goesL_ (some 59) rfl rfl Tryd.func9 (by kernel_rfl) rfl #[.agg #[.slice Ao36 t338.length co36], .int .i64 1] rfl tq_2 ?_; (with_reducible refine (laws_markView.calls kj52 (fun k_ => some k_ = (.slice Ao36 t338.length co36 : Value).ownBlock) (.slice Ao36 t338.length co36) t338 1 t350 t351 w _ ?side1 ?side2 A70.out).mono ?_); (case side1 => exact tq_34); (case side2 => exact Kd.R_tight rfl HO_342000.out); rintro e w77 ⟨rfl, hy0, hb, hkp⟩; refine ⟨_, rfl, ?_⟩; have z_ := p_ (Kd.R_mono (ok' := fun k_ => some k_ ≠ (.slice Ao30 t348.length co30 : Value).ownBlock ∧ some k_ ≠ (.slice Ao36 t338.length co36 : Value).ownBlock) (Kd.R_keptB (HO_334000.out) hkp (fun k_ hk_ hs_ => (hk_.2) hs_)) (fun k_ hk_ => ⟨hk_.1.1, hk_.1.2⟩)) <| p_ (Kd.R_mono (ok' := fun k_ => some k_ ≠ (.slice Ao24 t330.length co24 : Value).ownBlock ∧ some k_ ≠ (.slice Ao36 t338.length co36 : Value).ownBlock) (Kd.R_keptB (HO_338000.out) hkp (fun k_ hk_ hs_ => (hk_.2) hs_)) (fun k_ hk_ => ⟨hk_.1.1, hk_.1.2⟩)) <| p_ (Kd.R_reok rfl hy0 (fun k_ e_ => HO_342000.out.1 k_ e_)) <| p_ (blk_kept (kb_ BK325) hkp (fun hs_ => (fun e_ => (Kd.R_ne HO_342000.out BK325.out (by decide)) e_) hs_)) <| p_ (blk_kept (kb_ BK333) hkp (fun hs_ => (fun e_ => (Kd.R_ne HO_342000.out BK333.out (by decide)) e_) hs_)) <| p_ (blk_kept (kb_ BK337) hkp (fun hs_ => (fun e_ => (Kd.R_ne HO_342000.out BK337.out (by decide)) e_) hs_)) <| p_ (blk_kept (kb_ BK341) hkp (fun hs_ => (fun e_ => (Kd.R_ne HO_342000.out BK341.out (by decide)) e_) hs_)) <| a_ (hb); clear HO_334000 HO_338000 HO_342000 BK325 BK333 BK337 BK341 HB; obtain ⟨HO_334000, HO_338000, HO_342000, BK325, BK333, BK337, BK341, HB⟩ := z_; (try clear hb); (try clear hkp); (try clear hy0); have hcz78_0 := bc_ BK341.out 0; have hfz78_0 := blk_frozen BK341.out 0) | ((with_reducible refine gate_callee (f := 10) rfl ?_); refine goesL_ (some 62) rfl rfl Tryd.func10 (by kernel_rfl) rfl #[.agg #[.slice Ao36 t351.length co36], .int .i64 1] rfl tq_35 ?_; (with_reducible refine (laws_heldView.calls kj52 _ _ t351 1 t352 _ ?side1 ?side2 A71.out).mono ?_); (case side1 => exact tq_46); (case side2 => rw [show t351.length = t338.length from (Kd.R_reads' HO_342000.out).1.symm]; exact (Kd.R_reads' HO_342000.out).2.1); rintro e w79 ⟨rfl, hb⟩; refine ⟨_, rfl, ?_⟩; have z_ := p_ (Kd.R_below (raR_ HO_334000) hb) <| p_ (Kd.R_below (raR_ HO_338000) hb) <| p_ (Kd.R_below (raR_ HO_342000) hb) <| bw4_ (kb_ BK325) (kb_ BK333) (kb_ BK337) (kb_ BK341) th_ hb; clear HO_334000 HO_338000 HO_342000 BK325 BK333 BK337 BK341 HB; obtain ⟨HO_334000, HO_338000, HO_342000, BK325, BK333, BK337, BK341, HB⟩ := z_; (try clear hb)))
 (try simp only [Act.put, List.setIfInBounds_toArray, List.set_cons_zero, List.set_cons_succ])
 (try clear n325_337 n325_341 n333_337 n333_341 n337_325 n337_333 n337_341 n341_325 n341_333 n341_337)
 (try clear hcz76_0)
 (try clear hcz78_0)
 (try clear hfz76_0)
 (try clear hfz78_0)
 have H := HC72.out
 clear HC72
 by_cases c80 : t352 < 0
 ·rw [if_pos c80] at H
  have c80b0 := decide_eq_true c80
  clear c80
  (first | rw [c80b0] | (simp only [i64_w, i32_w]; rw [c80b0]) | skip)
  obtain rfl := Option.some.inj H
  go_wp2
  go_ret
  exact ⟨tq_3, th_⟩
 rw [if_neg c80] at H
 have c80b0 := decide_eq_false c80
 clear c80
 (first | rw [c80b0] | (simp only [i64_w, i32_w]; rw [c80b0]) | skip)
 by_cases c81 : t352 = t350
 rotate_left
 ·rw [if_neg c81] at H
  have c81b0 := beq_eq_false_iff_ne.mpr c81
  have c81b1 := bne_iff_ne.mpr c81
  obtain rfl := Option.some.inj H
  go_wp2
  go_ret
  exact ⟨tq_3, th_⟩
 rw [if_pos c81] at H
 have c81b0 := beq_iff_eq.mpr c81
 have c81b1 := bne_eq_false_iff_eq.mpr c81
 clear c81
 obtain ⟨t353, A82, H⟩ := bd_ H
 obtain ⟨t356, A83, H⟩ := bd_ H
 obtain ⟨t360, A84, H⟩ := bd_ H
 have HC85 := Aside0.mk H
 clear H
 obtain ⟨n325_333, n333_325, n325_337, n337_325, n325_341, n341_325⟩ := an6_ NB325_333 NB333_325 NB325_337 NB337_325 NB325_341 NB341_325
 have hcz89_0 := bc_ BK325.out 0
 have hfz89_0 := blk_frozen BK325.out 0
 go_upto_if 76 with (first | ((with_reducible refine gate_callee (f := 6) rfl ?_); refine goesL_ (some 69) rfl rfl Tryd.func6 (by kernel_rfl) rfl #[.agg #[.slice A0_0 l0_0.length c0_0]] rfl tq_2 ?_; (with_reducible refine (laws_toView.calls kj52 _ _ l0_0 t353 _ ?side1 ?side2 A82.out).mono ?_); (case side1 => exact tq_5); (case side2 => exact HC0_0.out); rintro e w90 ⟨v354, rfl, ho0, hb⟩; refine ⟨_, rfl, ?_⟩; have z_ := p_ (Kd.R_elder' (raR_ HO_334000) (Kd.R_base ho0) hb) <| p_ (Kd.R_elder' (raR_ HO_338000) (Kd.R_base ho0) hb) <| p_ (Kd.R_elder' (raR_ HO_342000) (Kd.R_base ho0) hb) <| p_ (Kd.R_lower (Kd.R_new' (Kd.R_new' (Kd.R_new' ho0 (Kd.R_lt (raR_ HO_334000))) (Kd.R_lt (raR_ HO_338000))) (Kd.R_lt (raR_ HO_342000))) (below_size th_)) <| bw4_ (kb_ BK325) (kb_ BK333) (kb_ BK337) (kb_ BK341) th_ hb; clear HO_334000 HO_338000 HO_342000 BK325 BK333 BK337 BK341 HB; obtain ⟨HO_334000, HO_338000, HO_342000, HO355, BK325, BK333, BK337, BK341, HB⟩ := z_; (try clear hb); (try clear ho0); obtain ⟨Ao91, co91, eo91⟩ := Kd.R_slice HO355.out; subst eo91) | ((with_reducible refine gate_callee (f := 7) rfl ?_); refine goesL_ (some 72) rfl rfl Tryd.func7 (by kernel_rfl) rfl #[.agg #[.slice Ao91 t353.length co91], .string a1, .string a2] rfl tq_2 ?_; (with_reducible refine (impl_MovedItems.calls kj52 _ _ t353 a1 a2 t356 _ ?side1 ?side2 ?side3 A83.out).mono ?_); (case side1 => exact DoorOk.below HD.out th_); (case side2 => repeat (first | exact (Kd.R_reads' HO355.out).2.2 | (with_reducible refine Kd.C_alloc ?_ _) | (with_reducible refine Kd.C_drewN ?_ _) | (with_reducible refine Kd.C_drew ?_))); (case side3 => exact (Kd.R_reads' HO355.out).2.1); rintro e w92 ⟨v357, rfl, ho0, hb⟩; refine ⟨_, rfl, ?_⟩; have z_ := p_ (Kd.R_elder' (raR_ HO_334000) (Kd.R_base ho0) hb) <| p_ (Kd.R_elder' (raR_ HO_338000) (Kd.R_base ho0) hb) <| p_ (Kd.R_elder' (raR_ HO_342000) (Kd.R_base ho0) hb) <| p_ (Kd.R_elder' (raR_ HO355) (Kd.R_base ho0) hb) <| p_ (Kd.R_lower (Kd.R_new' (Kd.R_new' (Kd.R_new' (Kd.R_new' ho0 (Kd.R_lt (raR_ HO_334000))) (Kd.R_lt (raR_ HO_338000))) (Kd.R_lt (raR_ HO_342000))) (Kd.R_lt (raR_ HO355))) (below_size th_)) <| bw4_ (kb_ BK325) (kb_ BK333) (kb_ BK337) (kb_ BK341) th_ hb; clear HO_334000 HO_338000 HO_342000 HO355 BK325 BK333 BK337 BK341 HB; obtain ⟨HO_334000, HO_338000, HO_342000, HO355, HO358, BK325, BK333, BK337, BK341, HB⟩ := z_; (try clear hb); (try clear ho0)) | ((with_reducible refine gate_dst (N := 14) rfl ?_); refine be_ 14 (cs := #[.slice none 0 0]) 28 ?_; intro gb359 hg w93 hbox hb; have z_ := p_ (Kd.R_below (raR_ HO_334000) hb) <| p_ (Kd.R_below (raR_ HO_338000) hb) <| p_ (Kd.R_below (raR_ HO_342000) hb) <| p_ (Kd.R_below (raR_ HO355) hb) <| p_ (Kd.R_below (raR_ HO358) hb) <| bx4_ (kb_ BK325) (kb_ BK333) (kb_ BK337) (kb_ BK341) th_ hb hbox hg; clear HO_334000 HO_338000 HO_342000 HO355 HO358 BK325 BK333 BK337 BK341 HB; obtain ⟨HO_334000, HO_338000, HO_342000, HO355, HO358, BK325, BK333, BK337, BK341, HB, BK359, GW359, GE359, NB325_359, NB359_325, NB333_359, NB359_333, NB337_359, NB359_337, NB341_359, NB359_341⟩ := z_; clear hb hbox hg; obtain ⟨Ao94, co94, eo94⟩ := Kd.R_slice HO358.out; subst eo94; obtain ⟨n359_325, n325_359, n359_333, n333_359, n359_337, n337_359, n359_341, n341_359⟩ := an8_ NB359_325 NB325_359 NB359_333 NB333_359 NB359_337 NB337_359 NB359_341 NB341_359; have hcz99_0 := bc_ BK359.out 0; have hfz99_0 := blk_frozen BK359.out 0; obtain ⟨n333_337, n337_333, n333_341, n341_333⟩ := an4_ NB333_337 NB337_333 NB333_341 NB341_333; have hcz102_0 := bc_ BK333.out 0; have hfz102_0 := blk_frozen BK333.out 0) | ((with_reducible refine gate_callee (f := 8) rfl ?_); refine goesL_ (some 75) rfl rfl Tryd.func8 (by kernel_rfl) rfl #[.agg #[.slice Ao94 t356.length co94], .agg #[.slice Ao24 t330.length co24]] rfl tq_2 ?_; (with_reducible refine (laws_eqView.calls kj52 _ _ t356 _ _ t330 t360 _ ?side1 ?side2 ?side3 ?side4 A84.out).mono ?_); (case side1 => refine (Kd.R_reads' (e := 36) (base := w.heap.size) (ok := fun k_ => ((((True ∧ some k_ ≠ (.slice Ao24 t330.length co24 : Value).ownBlock) ∧ some k_ ≠ (.slice Ao30 t348.length co30 : Value).ownBlock) ∧ some k_ ≠ (.slice Ao36 t338.length co36 : Value).ownBlock) ∧ some k_ ≠ (.slice Ao91 t353.length co91 : Value).ownBlock)) (n := t356.length) (c := co94) ?_).2.2; exact tq_38); (case side2 => exact (Kd.R_reads' HO358.out).2.1); (case side3 => refine (Kd.R_reads' (e := 36) (base := w.heap.size) (ok := fun k_ => (((some k_ ≠ (.slice Ao30 t348.length co30 : Value).ownBlock ∧ some k_ ≠ (.slice Ao36 t338.length co36 : Value).ownBlock) ∧ some k_ ≠ (.slice Ao91 t353.length co91 : Value).ownBlock) ∧ some k_ ≠ (.slice Ao94 t356.length co94 : Value).ownBlock)) (n := t330.length) (c := co24) ?_).2.2; exact tq_37); (case side4 => exact (Kd.R_reads' HO_334000.out).2.1); rintro e w103 ⟨rfl, hb⟩; refine ⟨_, rfl, ?_⟩; have z_ := p_ (Kd.R_below tq_37 hb) <| p_ (Kd.R_below (by (with_reducible repeat (first | apply Kd.R_alloc | apply Kd.R_drewN | apply Kd.R_drew)); exact (Kd.R_mono (rR_ (Kd.R_types HO_338000.out BK359.out (by decide))) (fun _ h_ => h_.1))) hb) <| p_ (Kd.R_below (by (with_reducible repeat (first | apply Kd.R_alloc | apply Kd.R_drewN | apply Kd.R_drew)); exact (Kd.R_mono (rR_ (Kd.R_types HO_342000.out BK359.out (by decide))) (fun _ h_ => h_.1))) hb) <| p_ (Kd.R_below (by (with_reducible repeat (first | apply Kd.R_alloc | apply Kd.R_drewN | apply Kd.R_drew)); exact (Kd.R_mono (rR_ (Kd.R_types HO355.out BK359.out (by decide))) (fun _ h_ => h_.1))) hb) <| p_ (Kd.R_below tq_38 hb) <| p_ (blk_below (g := gb325) (o := .cells #[.slice A0_0 l0_0.length c0_0] 24 (0, 0)) (by (with_reducible repeat (first | refine blk_drewN ?_ _ | refine blk_drew ?_ | refine blk_alloc ?_ _)); refine blk_far ?_ NB325_359.out _; (with_reducible repeat (first | refine blk_drewN ?_ _ | refine blk_drew ?_ | refine blk_alloc ?_ _)); exact BK325.out) hb) <| p_ (blk_below (g := gb333) (o := .cells #[.slice Ao24 t330.length co24] 28 (0, 0)) (by (with_reducible repeat (first | refine blk_drewN ?_ _ | refine blk_drew ?_ | refine blk_alloc ?_ _)); refine blk_far ?_ NB333_359.out _; (with_reducible repeat (first | refine blk_drewN ?_ _ | refine blk_drew ?_ | refine blk_alloc ?_ _)); exact BK333.out) hb) <| p_ (blk_below (g := gb337) (o := .cells #[.slice Ao30 t348.length co30] 28 (0, 0)) (by (with_reducible repeat (first | refine blk_drewN ?_ _ | refine blk_drew ?_ | refine blk_alloc ?_ _)); refine blk_far ?_ NB337_359.out _; (with_reducible repeat (first | refine blk_drewN ?_ _ | refine blk_drew ?_ | refine blk_alloc ?_ _)); exact BK337.out) hb) <| p_ (blk_below (g := gb341) (o := .cells #[.slice Ao36 t338.length co36] 28 (0, 0)) (by (with_reducible repeat (first | refine blk_drewN ?_ _ | refine blk_drew ?_ | refine blk_alloc ?_ _)); refine blk_far ?_ NB341_359.out _; (with_reducible repeat (first | refine blk_drewN ?_ _ | refine blk_drew ?_ | refine blk_alloc ?_ _)); exact BK341.out) hb) <| p_ (blk_below (g := gb359) (o := .cells #[.slice Ao94 t356.length co94] 28 (0, 0)) (by (with_reducible repeat (first | refine blk_drewN ?_ _ | refine blk_drew ?_ | refine blk_alloc ?_ _)); refine blk_put (cs := #[.slice none 0 0]) ?_ 0 _ rfl; (with_reducible repeat (first | refine blk_drewN ?_ _ | refine blk_drew ?_ | refine blk_alloc ?_ _)); exact BK359.out) hb) <| a_ (below_step th_ hb); clear HO_334000 HO_338000 HO_342000 HO355 HO358 BK325 BK333 BK337 BK341 BK359 HB; obtain ⟨HO_334000, HO_338000, HO_342000, HO355, HO358, BK325, BK333, BK337, BK341, BK359, HB⟩ := z_; (try clear hb); (try clear hk)))
 (try simp only [Act.put, List.setIfInBounds_toArray, List.set_cons_zero, List.set_cons_succ])
 (try clear n325_333 n325_337 n325_341 n325_359 n333_325 n333_337 n333_341 n333_359 n337_325 n337_333 n337_359 n341_325 n341_333 n341_359 n359_325 n359_333 n359_337 n359_341)
 (try clear hcz102_0)
 (try clear hcz89_0)
 (try clear hcz99_0)
 (try clear hfz102_0)
 (try clear hfz89_0)
 (try clear hfz99_0)
 have H := HC85.out
 clear HC85
 have n_ := Aside0.mk (Kd.R_mono (ok' := (fun k_ => some k_ ≠ (.slice Ao30 t348.length co30 : Value).ownBlock ∧ some k_ ≠ (.slice Ao36 t338.length co36 : Value).ownBlock ∧ some k_ ≠ (.slice Ao94 t356.length co94 : Value).ownBlock)) HO_334000.out (fun k_ hk => ⟨hk.1.1.1, ⟨hk.1.1.2, hk.2⟩⟩))
 clear HO_334000
 have HO_334000 := n_
 clear n_
 have n_ := Aside0.mk (Kd.R_mono (ok' := (fun k_ => some k_ ≠ (.slice Ao24 t330.length co24 : Value).ownBlock ∧ some k_ ≠ (.slice Ao36 t338.length co36 : Value).ownBlock ∧ some k_ ≠ (.slice Ao94 t356.length co94 : Value).ownBlock)) HO_338000.out (fun k_ hk => ⟨hk.1.1.1, ⟨hk.1.1.2, hk.2⟩⟩))
 clear HO_338000
 have HO_338000 := n_
 clear n_
 have n_ := Aside0.mk (Kd.R_mono (ok' := (fun k_ => some k_ ≠ (.slice Ao24 t330.length co24 : Value).ownBlock ∧ some k_ ≠ (.slice Ao30 t348.length co30 : Value).ownBlock ∧ some k_ ≠ (.slice Ao94 t356.length co94 : Value).ownBlock)) HO_342000.out (fun k_ hk => ⟨hk.1.1.1, ⟨hk.1.1.2, hk.2⟩⟩))
 clear HO_342000
 have HO_342000 := n_
 clear n_ HO355
 have n_ := Aside0.mk (Kd.R_mono (ok' := (fun k_ => some k_ ≠ (.slice Ao24 t330.length co24 : Value).ownBlock ∧ some k_ ≠ (.slice Ao30 t348.length co30 : Value).ownBlock ∧ some k_ ≠ (.slice Ao36 t338.length co36 : Value).ownBlock)) HO358.out (fun k_ hk => ⟨hk.1.1.1.2, ⟨hk.1.1.2, hk.1.2⟩⟩))
 clear HO358
 have HO358 := n_
 clear n_
 by_cases c104 : t360 = true
 rotate_left
 ·replace c104 := Bool.eq_false_iff.mpr c104
  subst c104
  rw [if_neg nf_] at H
  obtain rfl := Option.some.inj H
  go_wp2
  go_ret
  exact ⟨tq_3, th_⟩
 subst c104
 rw [if_pos rfl] at H
 obtain ⟨t361, A105, H⟩ := bd_ H
 have HC106 := Aside0.mk H
 clear H
 obtain ⟨n341_325, n325_341, n341_333, n333_341, n341_337, n337_341, n341_359, n359_341⟩ := an8_ NB341_325 NB325_341 NB341_333 NB333_341 NB341_337 NB337_341 NB341_359 NB359_341
 have hcz111_0 := bc_ BK341.out 0
 have hfz111_0 := blk_frozen BK341.out 0
 go_upto_if 81 with (first | ((with_reducible refine gate_callee (f := 10) rfl ?_); refine goesL_ (some 79) rfl rfl Tryd.func10 (by kernel_rfl) rfl #[.agg #[.slice Ao36 t351.length co36], .int .i64 1] rfl tq_35 ?_; (with_reducible refine (laws_heldView.calls kj52 _ _ t351 1 t361 _ ?side1 ?side2 A105.out).mono ?_); (case side1 => exact tq_46); (case side2 => rw [show t351.length = t338.length from (Kd.R_reads' HO_342000.out).1.symm]; exact (Kd.R_reads' HO_342000.out).2.1); rintro e w112 ⟨rfl, hb⟩; refine ⟨_, rfl, ?_⟩; have z_ := p_ (Kd.R_below (raR_ HO_334000) hb) <| p_ (Kd.R_below (raR_ HO_338000) hb) <| p_ (Kd.R_below (raR_ HO_342000) hb) <| p_ (Kd.R_below (raR_ HO358) hb) <| bw5_ (kb_ BK325) (kb_ BK333) (kb_ BK337) (kb_ BK341) (kb_ BK359) th_ hb; clear HO_334000 HO_338000 HO_342000 HO358 BK325 BK333 BK337 BK341 BK359 HB; obtain ⟨HO_334000, HO_338000, HO_342000, HO358, BK325, BK333, BK337, BK341, BK359, HB⟩ := z_; (try clear hb); (try clear hk)))
 (try simp only [Act.put, List.setIfInBounds_toArray, List.set_cons_zero, List.set_cons_succ])
 (try clear n325_341 n333_341 n337_341 n341_325 n341_333 n341_337 n341_359 n359_341)
 (try clear hcz111_0)
 (try clear hfz111_0)
 have H := HC106.out
 clear HC106
 by_cases c113 : t361 < 0
 ·rw [if_pos c113] at H
  have c113b0 := decide_eq_true c113
  clear c113
  (first | rw [c113b0] | (simp only [i64_w, i32_w]; rw [c113b0]) | skip)
  obtain rfl := Option.some.inj H
  go_wp2
  go_ret
  exact ⟨tq_3, th_⟩
 rw [if_neg c113] at H
 have c113b0 := decide_eq_false c113
 clear c113
 (first | rw [c113b0] | (simp only [i64_w, i32_w]; rw [c113b0]) | skip)
 by_cases c114 : t361 = t350
 rotate_left
 ·rw [if_neg c114] at H
  have c114b0 := beq_eq_false_iff_ne.mpr c114
  have c114b1 := bne_iff_ne.mpr c114
  obtain rfl := Option.some.inj H
  go_wp2
  go_ret
  exact ⟨tq_3, th_⟩
 rw [if_pos c114] at H
 have c114b0 := beq_iff_eq.mpr c114
 have c114b1 := bne_eq_false_iff_eq.mpr c114
 clear c114
 obtain rfl := Option.some.inj H
 go_wp2
 go_ret
 exact ⟨tq_3, th_⟩

end Go.Proofs.YtmddplifammohaaDoor.PFnExactMovedItems
