/- Contracts of Go functions, written by a program of ours over the print of the kit: each says that the call returns what the Lean function beside it computes. Conditions: as each theorem states them. -/
import Derived.Test.YtabgpbmaoelohaaDoorPkFnExactViewOk
import Derived.Test.YtabgpbmaoelohaaDoorPFnExactViewOkx0
import Derived.Test.YtabgpbmaoelohaaDoorPFnExactViewOkx1
import Derived.Test.YtabgpbmaoelohaaDoorPFnExactViewOkx2
import Derived.Test.YtabgpbmaoelohaaDoorPFnExactViewOkx4
import Derived.Test.YtabgpbmaoelohaaDoorPFnExactViewOkx5
import Derived.Test.YtabgpbmaoelohaaDoorPFnExactViewOkx7
namespace Go.Proofs.YtabgpbmaoelohaaDoor.PFnExactViewOk
open Go.RowKit Go.Proofs.YtabgpbmaoelohaaDoorW.PrintWords Go.Proofs.YtabgpbmaoelohaaDoorW.PrintLast Go.Proofs.YtabgpbmaoelohaaDoorW.PrintMore
attribute [local go_sem] max2_int min2_int max_two min_two max_three min_three max_four min_four   -- for this text's walks alone
set_option linter.unusedVariables false
set_option linter.unusedSimpArgs false

/-! ### laws_FnExactViewOk: function 10 -/
def laws_FnExactViewOk.f (k : Nat) (a0_0 : Int) (a0_1 : Int) (a0_2 : Int) (a0_3 : Int) (l1_0 : List (S103)) : Option (Bool) := (laws_szView.f k l1_0 1048576).bind fun t277 => (if t277 < 0 then (some true) else ((laws_toGeo.f a0_0 a0_1 a0_2 a0_3).bind fun bt278 => ((laws_toView.f k l1_0).bind fun t282 => ((spec_ViewOk.f k bt278.1 bt278.2.1 bt278.2.2.1 bt278.2.2.2 t282).bind fun t285 => ((laws_toView.f k l1_0).bind fun t286 => ((laws_toGeo.f a0_0 a0_1 a0_2 a0_3).bind fun bt290 => ((impl_ViewOk.f k bt290.1 bt290.2.1 bt290.2.2.1 bt290.2.2.2 t286).bind fun t294 => (if (t294 != t285) = true then (some false) else ((laws_toView.f k l1_0).bind fun t295 => ((laws_eqView.f k t286 t295).bind fun t298 => (if t298 = true then (some true) else (some false))))))))))))
theorem laws_FnExactViewOk.mono : ∀ a0 a1 a2 a3 a4 k, LeO (laws_FnExactViewOk.f k a0 a1 a2 a3 a4) (laws_FnExactViewOk.f (k + 1) a0 a1 a2 a3 a4) := by
 intro a0 a1 a2 a3 a4 k
 unfold laws_FnExactViewOk.f
 repeat' first
   | (with_reducible exact impl_ViewOk.mono _ _ _ _ _ _)
   | (with_reducible exact laws_eqView.mono _ _ _)
   | (with_reducible exact laws_szView.mono _ _ _)
   | (with_reducible exact laws_toView.mono _ _)
   | (with_reducible exact spec_ViewOk.mono _ _ _ _ _ _)
   | (with_reducible exact LeO.refl _)
   | (with_reducible exact LeO.none _)
   | (with_reducible refine LeO.ite ?_ ?_)
   | (with_reducible refine LeO.bind ?_ (fun _ => ?_))
   | exact impl_ViewOk.mono _ _ _ _ _ _
   | exact laws_eqView.mono _ _ _
   | exact laws_szView.mono _ _ _
   | exact laws_toView.mono _ _
   | exact spec_ViewOk.mono _ _ _ _ _ _
   | exact LeO.none _
   | refine LeO.ite ?_ ?_
   | refine LeO.bind ?_ (fun _ => ?_)
set_option maxHeartbeats 8000000 in
set_option maxRecDepth 100000 in
theorem laws_FnExactViewOk.calls (k : Nat) (a0_0 : Int) (a0_1 : Int) (a0_2 : Int) (a0_3 : Int) (A1_0 : Option Addr) (c1_0 : Nat) (l1_0 : List (S103)) (r : Bool) (w : World) (hD_ : DoorOk w) (hr1_0 : Kd.C k103 w A1_0 l1_0.length l1_0) (hc1_0 : l1_0.length ≤ c1_0) (h : laws_FnExactViewOk.f k a0_0 a0_1 a0_2 a0_3 l1_0 = some r) :
  Calls Tryd.prog 10 #[.agg #[.int .i64 a0_0, .int .i64 a0_1, .int .i64 a0_2, .int .i64 a0_3], .agg #[.slice A1_0 l1_0.length c1_0]] w fun e w' => e = .returned (.bool r) ∧ Below w.heap.size w w' := by
 have hu56 := Tryd.underlying56
 have hu32 := Tryd.underlying32
 have hu37 := Tryd.underlying37
 have HR1_0 := Aside0.mk hr1_0
 have HC1_0 := Aside0.mk hc1_0
 clear hr1_0 hc1_0
 have HD := Aside0.mk hD_
 clear hD_
 have HB := Aside0.mk (Below.refl w.heap.size w)
 have H : ((laws_szView.f k l1_0 1048576).bind fun t277 => (if t277 < 0 then (some true) else ((laws_toGeo.f a0_0 a0_1 a0_2 a0_3).bind fun bt278 => ((laws_toView.f k l1_0).bind fun t282 => ((spec_ViewOk.f k bt278.1 bt278.2.1 bt278.2.2.1 bt278.2.2.2 t282).bind fun t285 => ((laws_toView.f k l1_0).bind fun t286 => ((laws_toGeo.f a0_0 a0_1 a0_2 a0_3).bind fun bt290 => ((impl_ViewOk.f k bt290.1 bt290.2.1 bt290.2.2.1 bt290.2.2.2 t286).bind fun t294 => (if (t294 != t285) = true then (some false) else ((laws_toView.f k l1_0).bind fun t295 => ((laws_eqView.f k t286 t295).bind fun t298 => (if t298 = true then (some true) else (some false))))))))))))) = some r := h
 clear h
 replace H := Option.bind_eq_some_iff.mp H
 obtain ⟨t277, A30, H⟩ := H
 replace H : (if t277 < 0 then (some true) else ((laws_toGeo.f a0_0 a0_1 a0_2 a0_3).bind fun bt278 => ((laws_toView.f k l1_0).bind fun t282 => ((spec_ViewOk.f k bt278.1 bt278.2.1 bt278.2.2.1 bt278.2.2.2 t282).bind fun t285 => ((laws_toView.f k l1_0).bind fun t286 => ((laws_toGeo.f a0_0 a0_1 a0_2 a0_3).bind fun bt290 => ((impl_ViewOk.f k bt290.1 bt290.2.1 bt290.2.2.1 bt290.2.2.2 t286).bind fun t294 => (if (t294 != t285) = true then (some false) else ((laws_toView.f k l1_0).bind fun t295 => ((laws_eqView.f k t286 t295).bind fun t298 => (if t298 = true then (some true) else (some false)))))))))))) = some r := H
 have A3 := Aside0.mk A30
 clear A30
 by_cases c4 : t277 < 0
 ·rw [if_pos c4] at H
  have c4b0 : decide (t277 < 0) = true := decide_eq_true c4
  clear c4
  obtain rfl := Option.some.inj H
  go_enter Tryd.func10, Tryd.ntmps10
  go_wp2_with (first | ((with_reducible refine gate_dst (N := 2) rfl ?_); refine box_event ?hg (N := 2) ?hd (cs := #[.int .i64 a0_0, .int .i64 a0_1, .int .i64 a0_2, .int .i64 a0_3]) (t := 56) ?hr ?_; (case hd => rfl); (case hg => rfl); (case hr => first | (go_simp; done) | (go_simp; rfl)); intro gb275 hg w5 hbox hb; have n0_ := Aside0.mk (below_step tq_0 hb); have n1_ := Aside0.mk (hbox); have n2_ := Aside0.mk ((by rw [hg]; exact (below_size tq_0) : w.heap.size ≤ gb275)); have n3_ := Aside0.mk ((by rw [hg]; exact (below_size tq_0) : w.heap.size ≤ gb275)); clear HB; have HB := n0_; have BK275 := n1_; have GW275 := n2_; have GE275 := n3_; clear n0_ n1_ n2_ n3_; clear hb hbox hg) | ((with_reducible refine gate_dst (N := 3) rfl ?_); refine box_event ?hg (N := 3) ?hd (cs := #[.slice A1_0 l1_0.length c1_0]) (t := 32) ?hr ?_; (case hd => rfl); (case hg => rfl); (case hr => first | (go_simp; done) | (go_simp; rfl)); intro gb276 hg w6 hbox hb; have n0_ := Aside0.mk (blk_below (g := gb275) (o := .cells #[.int .i64 a0_0, .int .i64 a0_1, .int .i64 a0_2, .int .i64 a0_3] 56 (0, 0)) tq_3 hb); have n1_ := Aside0.mk (below_step tq_14 hb); have n2_ := Aside0.mk (hbox); have n3_ := Aside0.mk ((by rw [hg]; exact (below_size tq_14) : w.heap.size ≤ gb276)); have n4_ := Aside0.mk ((by rw [hg]; exact (below_size tq_14) : w.heap.size ≤ gb276)); have n5_ := Aside0.mk ((by rw [hg]; exact Nat.ne_of_lt (blk_lt (g := gb275) (o := .cells #[.int .i64 a0_0, .int .i64 a0_1, .int .i64 a0_2, .int .i64 a0_3] 56 (0, 0)) tq_3) : gb275 ≠ gb276)); have n6_ := Aside0.mk ((by rw [hg]; exact Nat.ne_of_gt (blk_lt (g := gb275) (o := .cells #[.int .i64 a0_0, .int .i64 a0_1, .int .i64 a0_2, .int .i64 a0_3] 56 (0, 0)) tq_3) : gb276 ≠ gb275)); clear BK275; clear HB; have BK275 := n0_; have HB := n1_; have BK276 := n2_; have GW276 := n3_; have GE276 := n4_; have NB275_276 := n5_; have NB276_275 := n6_; clear n0_ n1_ n2_ n3_ n4_ n5_ n6_; clear hb hbox hg; have hnb7 := NB276_275.out; have hnc7 := NB275_276.out; have hcz8_0 : w6.cell? ⟨gb276, 0, none⟩ = some (.slice A1_0 l1_0.length c1_0) := (blk_cell BK276.out 0).trans rfl; have hfz8_0 := blk_frozen BK276.out 0) | ((with_reducible refine gate_callee (f := 24) rfl ?_); refine goesL_ (some 11) rfl rfl Tryd.func24 (by kernel_rfl) rfl #[.agg #[.slice A1_0 l1_0.length c1_0], .int .i64 1048576] rfl tq_1 ?_; (with_reducible refine (laws_szView.calls k _ _ l1_0 1048576 t277 _ ?side1 ?side2 A3.out).mono ?_); (case side1 => exact tq_4); (case side2 => exact HC1_0.out); rintro e w9 ⟨rfl, hb⟩; refine ⟨_, rfl, ?_⟩; have n0_ := Aside0.mk (blk_below (g := gb275) (o := .cells #[.int .i64 a0_0, .int .i64 a0_1, .int .i64 a0_2, .int .i64 a0_3] 56 (0, 0)) tq_3 hb); have n1_ := Aside0.mk (blk_below (g := gb276) (o := .cells #[.slice A1_0 l1_0.length c1_0] 32 (0, 0)) tq_7 hb); have n2_ := Aside0.mk (below_step tq_2 hb); clear BK275; clear BK276; clear HB; have BK275 := n0_; have BK276 := n1_; have HB := n2_; clear n0_ n1_ n2_; (try clear hb); (try clear hb2); (try clear hk); (try clear hi)))
  go_ret
  exact ⟨by first | rfl | (simp [errW_none, errW_some] <;> rfl) | (simp [*, errW_none, errW_some] <;> rfl), by repeat (first | (with_reducible first | exact HB.out | apply below_alloc | apply pw_below_drewN | apply below_drew1 | refine below_set ?_ GE275.out | refine below_set ?_ GE276.out) | exact HB.out)⟩
 ·rw [if_neg c4] at H
  have c4b0 : decide (t277 < 0) = false := decide_eq_false c4
  clear c4
  replace H := Option.bind_eq_some_iff.mp H
  obtain ⟨⟨t278, t279, t280, t281⟩, A100, H⟩ := H
  replace H : ((laws_toView.f k l1_0).bind fun t282 => ((spec_ViewOk.f k t278 t279 t280 t281 t282).bind fun t285 => ((laws_toView.f k l1_0).bind fun t286 => ((laws_toGeo.f a0_0 a0_1 a0_2 a0_3).bind fun bt290 => ((impl_ViewOk.f k bt290.1 bt290.2.1 bt290.2.2.1 bt290.2.2.2 t286).bind fun t294 => (if (t294 != t285) = true then (some false) else ((laws_toView.f k l1_0).bind fun t295 => ((laws_eqView.f k t286 t295).bind fun t298 => (if t298 = true then (some true) else (some false)))))))))) = some r := H
  have A10 := Aside0.mk A100
  clear A100
  replace H := Option.bind_eq_some_iff.mp H
  obtain ⟨t282, A110, H⟩ := H
  replace H : ((spec_ViewOk.f k t278 t279 t280 t281 t282).bind fun t285 => ((laws_toView.f k l1_0).bind fun t286 => ((laws_toGeo.f a0_0 a0_1 a0_2 a0_3).bind fun bt290 => ((impl_ViewOk.f k bt290.1 bt290.2.1 bt290.2.2.1 bt290.2.2.2 t286).bind fun t294 => (if (t294 != t285) = true then (some false) else ((laws_toView.f k l1_0).bind fun t295 => ((laws_eqView.f k t286 t295).bind fun t298 => (if t298 = true then (some true) else (some false))))))))) = some r := H
  have A11 := Aside0.mk A110
  clear A110
  replace H := Option.bind_eq_some_iff.mp H
  obtain ⟨t285, A120, H⟩ := H
  replace H : ((laws_toView.f k l1_0).bind fun t286 => ((laws_toGeo.f a0_0 a0_1 a0_2 a0_3).bind fun bt290 => ((impl_ViewOk.f k bt290.1 bt290.2.1 bt290.2.2.1 bt290.2.2.2 t286).bind fun t294 => (if (t294 != t285) = true then (some false) else ((laws_toView.f k l1_0).bind fun t295 => ((laws_eqView.f k t286 t295).bind fun t298 => (if t298 = true then (some true) else (some false)))))))) = some r := H
  have A12 := Aside0.mk A120
  clear A120
  replace H := Option.bind_eq_some_iff.mp H
  obtain ⟨t286, A130, H⟩ := H
  replace H : ((laws_toGeo.f a0_0 a0_1 a0_2 a0_3).bind fun bt290 => ((impl_ViewOk.f k bt290.1 bt290.2.1 bt290.2.2.1 bt290.2.2.2 t286).bind fun t294 => (if (t294 != t285) = true then (some false) else ((laws_toView.f k l1_0).bind fun t295 => ((laws_eqView.f k t286 t295).bind fun t298 => (if t298 = true then (some true) else (some false))))))) = some r := H
  have A13 := Aside0.mk A130
  clear A130
  replace H := Option.bind_eq_some_iff.mp H
  obtain ⟨⟨t290, t291, t292, t293⟩, A140, H⟩ := H
  replace H : ((impl_ViewOk.f k t290 t291 t292 t293 t286).bind fun t294 => (if (t294 != t285) = true then (some false) else ((laws_toView.f k l1_0).bind fun t295 => ((laws_eqView.f k t286 t295).bind fun t298 => (if t298 = true then (some true) else (some false)))))) = some r := H
  have A14 := Aside0.mk A140
  clear A140
  replace H := Option.bind_eq_some_iff.mp H
  obtain ⟨t294, A150, H⟩ := H
  replace H : (if (t294 != t285) = true then (some false) else ((laws_toView.f k l1_0).bind fun t295 => ((laws_eqView.f k t286 t295).bind fun t298 => (if t298 = true then (some true) else (some false))))) = some r := H
  have A15 := Aside0.mk A150
  clear A150
  by_cases c16 : (t294 != t285) = true
  ·rw [if_pos c16] at H
   have c16b0 : (t294 != t285) = true := c16
   (try (have c16b1 : decide (t294 = t285) = false := by simpa using c16))
   (try (have c16b2 : (t294 == t285) = false := by simpa using c16))
   (try (have c16b3 : ¬ (t294 = t285) := by simpa using c16))
   clear c16
   obtain rfl := Option.some.inj H
   go_enter Tryd.func10, Tryd.ntmps10
   try go_wp2_with (first | ((with_reducible refine gate_dst (N := 2) rfl ?_); refine box_event ?hg (N := 2) ?hd (cs := #[.int .i64 a0_0, .int .i64 a0_1, .int .i64 a0_2, .int .i64 a0_3]) (t := 56) ?hr ?_; (case hd => rfl); (case hg => rfl); (case hr => first | (go_simp; done) | (go_simp; rfl)); intro gb275 hg w17 hbox hb; have n0_ := Aside0.mk (below_step tq_0 hb); have n1_ := Aside0.mk (hbox); have n2_ := Aside0.mk ((by rw [hg]; exact (below_size tq_0) : w.heap.size ≤ gb275)); have n3_ := Aside0.mk ((by rw [hg]; exact (below_size tq_0) : w.heap.size ≤ gb275)); clear HB; have HB := n0_; have BK275 := n1_; have GW275 := n2_; have GE275 := n3_; clear n0_ n1_ n2_ n3_; clear hb hbox hg) | ((with_reducible refine gate_dst (N := 3) rfl ?_); refine box_event ?hg (N := 3) ?hd (cs := #[.slice A1_0 l1_0.length c1_0]) (t := 32) ?hr ?_; (case hd => rfl); (case hg => rfl); (case hr => first | (go_simp; done) | (go_simp; rfl)); intro gb276 hg w18 hbox hb; have n0_ := Aside0.mk (blk_below (g := gb275) (o := .cells #[.int .i64 a0_0, .int .i64 a0_1, .int .i64 a0_2, .int .i64 a0_3] 56 (0, 0)) tq_3 hb); have n1_ := Aside0.mk (below_step tq_14 hb); have n2_ := Aside0.mk (hbox); have n3_ := Aside0.mk ((by rw [hg]; exact (below_size tq_14) : w.heap.size ≤ gb276)); have n4_ := Aside0.mk ((by rw [hg]; exact (below_size tq_14) : w.heap.size ≤ gb276)); have n5_ := Aside0.mk ((by rw [hg]; exact Nat.ne_of_lt (blk_lt (g := gb275) (o := .cells #[.int .i64 a0_0, .int .i64 a0_1, .int .i64 a0_2, .int .i64 a0_3] 56 (0, 0)) tq_3) : gb275 ≠ gb276)); have n6_ := Aside0.mk ((by rw [hg]; exact Nat.ne_of_gt (blk_lt (g := gb275) (o := .cells #[.int .i64 a0_0, .int .i64 a0_1, .int .i64 a0_2, .int .i64 a0_3] 56 (0, 0)) tq_3) : gb276 ≠ gb275)); clear BK275; clear HB; have BK275 := n0_; have HB := n1_; have BK276 := n2_; have GW276 := n3_; have GE276 := n4_; have NB275_276 := n5_; have NB276_275 := n6_; clear n0_ n1_ n2_ n3_ n4_ n5_ n6_; clear hb hbox hg; have hnb19 := NB276_275.out; have hnc19 := NB275_276.out; have hcz20_0 : w18.cell? ⟨gb276, 0, none⟩ = some (.slice A1_0 l1_0.length c1_0) := (blk_cell BK276.out 0).trans rfl; have hfz20_0 := blk_frozen BK276.out 0) | ((with_reducible refine gate_callee (f := 24) rfl ?_); refine goesL_ (some 11) rfl rfl Tryd.func24 (by kernel_rfl) rfl #[.agg #[.slice A1_0 l1_0.length c1_0], .int .i64 1048576] rfl tq_1 ?_; (with_reducible refine (laws_szView.calls k _ _ l1_0 1048576 t277 _ ?side1 ?side2 A3.out).mono ?_); (case side1 => exact tq_4); (case side2 => exact HC1_0.out); rintro e w21 ⟨rfl, hb⟩; refine ⟨_, rfl, ?_⟩; have n0_ := Aside0.mk (blk_below (g := gb275) (o := .cells #[.int .i64 a0_0, .int .i64 a0_1, .int .i64 a0_2, .int .i64 a0_3] 56 (0, 0)) tq_3 hb); have n1_ := Aside0.mk (blk_below (g := gb276) (o := .cells #[.slice A1_0 l1_0.length c1_0] 32 (0, 0)) tq_7 hb); have n2_ := Aside0.mk (below_step tq_2 hb); clear BK275; clear BK276; clear HB; have BK275 := n0_; have BK276 := n1_; have HB := n2_; clear n0_ n1_ n2_; (try clear hb); (try clear hb2); (try clear hk); (try clear hi)))
   have n0_ := Aside0.mk (blk_drew BK275.out)
   have n1_ := Aside0.mk (blk_drew BK276.out)
   have n2_ := Aside0.mk (below_drew1 HB.out)
   clear BK275
   clear BK276
   clear HB
   have BK275 := n0_
   have BK276 := n1_
   have HB := n2_
   clear n0_ n1_ n2_
   refine start_ (n := 6) (S := fun w' => w'.cell? ⟨gb275, 0, none⟩ = some (.int .i64 a0_0) ∧ w'.cell? ⟨gb275, 1, none⟩ = some (.int .i64 a0_1) ∧ w'.cell? ⟨gb275, 2, none⟩ = some (.int .i64 a0_2) ∧ w'.cell? ⟨gb275, 3, none⟩ = some (.int .i64 a0_3) ∧ w'.cell? ⟨gb276, 0, none⟩ = some (.slice A1_0 l1_0.length c1_0)) (ds := []) bq_68 (by kernel_rfl) rfl rfl ⟨(blk_cell BK275.out 0).trans rfl, (blk_cell BK275.out 1).trans rfl, (blk_cell BK275.out 2).trans rfl, (blk_cell BK275.out 3).trans rfl, (blk_cell BK276.out 0).trans rfl⟩ (fun hHeld => ?_)
   generalize w21.drew = w22 at BK275 BK276 HB hHeld ⊢
   refine take_ (i := 0) (N := some 14) (v := ?_) (a' := ?_) bq_101 rfl rfl (by kernel_rfl) (fun _ _ _ h => h) (Or.inl ⟨by rfl, ?_⟩) hHeld ?_ ?_
   rotate_left
   ·rintro w' ⟨s0, s1, s2, s3, s4⟩
    go_simp
    with_reducible rfl
   rotate_left
   ·simp only [Act.put, List.setIfInBounds_toArray, List.set_cons_zero, List.set_cons_succ, i64_w, i32_w]
    rfl
   refine take_ (i := 2) (N := some 16) (v := ?_) (a' := ?_) bq_69 rfl rfl (by kernel_rfl) (fun _ _ _ h => h) (Or.inl ⟨by rfl, ?_⟩) hHeld ?_ ?_
   rotate_left
   ·rintro w' ⟨s0, s1, s2, s3, s4⟩
    go_simp
    with_reducible rfl
   rotate_left
   ·simp only [Act.put, List.setIfInBounds_toArray, List.set_cons_zero, List.set_cons_succ, i64_w, i32_w]
    rfl
   refine one_ (i := 1) (N := some 15) bq_102 rfl rfl (by kernel_rfl) (by decide) (fun K hK => ?_)
   refine goes_ Tryd.func38 (by kernel_rfl) rfl #[.agg #[.int .i64 a0_0, .int .i64 a0_1, .int .i64 a0_2, .int .i64 a0_3]] (by rfl) rfl rfl tq_1 ?_
   with_reducible refine (laws_toGeo.calls a0_0 a0_1 a0_2 a0_3 t278 t279 t280 t281 _ A10.out).mono ?_
   rintro e w23 ⟨rfl, hb⟩
   refine ⟨_, rfl, ?_⟩
   have n0_ := Aside0.mk (blk_below (g := gb275) (o := .cells #[.int .i64 a0_0, .int .i64 a0_1, .int .i64 a0_2, .int .i64 a0_3] 56 (0, 0)) tq_3 hb)
   have n1_ := Aside0.mk (blk_below (g := gb276) (o := .cells #[.slice A1_0 l1_0.length c1_0] 32 (0, 0)) tq_7 hb)
   have n2_ := Aside0.mk (below_step tq_2 hb)
   clear BK275
   clear BK276
   clear HB
   have BK275 := n0_
   have BK276 := n1_
   have HB := n2_
   clear n0_ n1_ n2_
   (try clear hb)
   (try clear hb2)
   (try clear hk)
   (try clear hi)
   refine hK.out _ _ ⟨(blk_cell BK275.out 0).trans rfl, (blk_cell BK275.out 1).trans rfl, (blk_cell BK275.out 2).trans rfl, (blk_cell BK275.out 3).trans rfl, (blk_cell BK276.out 0).trans rfl⟩ (fun hHeld => ?_)
   clear hK K
   refine norm_ (a' := ?_) ?_ ?_
   rotate_left
   ·show Act.put _ (some 15) _ = _
    simp only [Act.put, List.setIfInBounds_toArray, List.set_cons_zero, List.set_cons_succ, i64_w, i32_w]
    rfl
   refine one_ (i := 3) (N := some 17) bq_70 rfl rfl (by kernel_rfl) (by decide) (fun K hK => ?_)
   refine goes_ Tryd.func26 (by kernel_rfl) rfl #[.agg #[.slice A1_0 l1_0.length c1_0]] (by rfl) rfl rfl tq_1 ?_
   with_reducible refine (laws_toView.calls k _ _ l1_0 t282 _ ?side1 ?side2 A11.out).mono ?_
   (case side1 => exact tq_4)
   (case side2 => exact HC1_0.out)
   rintro e w24 ⟨v283, rfl, ho0, hb⟩
   refine ⟨_, rfl, ?_⟩
   have n0_ := Aside0.mk (Kd.R_lower ho0 (below_size tq_2))
   have n1_ := Aside0.mk (blk_below (g := gb275) (o := .cells #[.int .i64 a0_0, .int .i64 a0_1, .int .i64 a0_2, .int .i64 a0_3] 56 (0, 0)) tq_3 hb)
   have n2_ := Aside0.mk (blk_below (g := gb276) (o := .cells #[.slice A1_0 l1_0.length c1_0] 32 (0, 0)) tq_7 hb)
   have n3_ := Aside0.mk (below_step tq_2 hb)
   clear BK275
   clear BK276
   clear HB
   have HO284 := n0_
   have BK275 := n1_
   have BK276 := n2_
   have HB := n3_
   clear n0_ n1_ n2_ n3_
   (try clear hb)
   (try clear hb2)
   (try clear hk)
   (try clear hi)
   (try clear ho0)
   obtain ⟨Ao25, co25, eo25⟩ := Kd.R_slice HO284.out
   (first | subst eo25 | (injection eo25 with f1_ f2_ f3_; have f4_ := f1_.symm; have f5_ := f3_.symm; clear f1_ f2_ f3_; subst f4_; subst f5_))
   refine hK.out _ _ ⟨(blk_cell BK275.out 0).trans rfl, (blk_cell BK275.out 1).trans rfl, (blk_cell BK275.out 2).trans rfl, (blk_cell BK275.out 3).trans rfl, (blk_cell BK276.out 0).trans rfl⟩ (fun hHeld => ?_)
   clear hK K
   refine norm_ (a' := ?_) ?_ ?_
   rotate_left
   ·show Act.put _ (some 17) _ = _
    simp only [Act.put, List.setIfInBounds_toArray, List.set_cons_zero, List.set_cons_succ, i64_w, i32_w]
    rfl
   refine one_ (i := 4) (N := some 18) bq_71 rfl rfl (by kernel_rfl) (by decide) (fun K hK => ?_)
   refine goes_ Tryd.func37 (by kernel_rfl) rfl #[.agg #[.int .i64 t278, .int .i64 t279, .int .i64 t280, .int .i64 t281], .agg #[.slice Ao25 t282.length co25]] (by rfl) rfl rfl tq_1 ?_
   with_reducible refine (spec_ViewOk.calls k t278 t279 t280 t281 _ _ t282 t285 _ ?side1 ?side2 A12.out).mono ?_
   (case side1 => exact tq_54)
   (case side2 => exact (Kd.R_reads' HO284.out).2.1)
   rintro e w26 ⟨rfl, hb⟩
   refine ⟨_, rfl, ?_⟩
   have n0_ := Aside0.mk (Kd.R_below tq_11 hb)
   have n1_ := Aside0.mk (blk_below (g := gb275) (o := .cells #[.int .i64 a0_0, .int .i64 a0_1, .int .i64 a0_2, .int .i64 a0_3] 56 (0, 0)) tq_3 hb)
   have n2_ := Aside0.mk (blk_below (g := gb276) (o := .cells #[.slice A1_0 l1_0.length c1_0] 32 (0, 0)) tq_7 hb)
   have n3_ := Aside0.mk (below_step tq_2 hb)
   clear HO284
   clear BK275
   clear BK276
   clear HB
   have HO284 := n0_
   have BK275 := n1_
   have BK276 := n2_
   have HB := n3_
   clear n0_ n1_ n2_ n3_
   (try clear hb)
   (try clear hb2)
   (try clear hk)
   (try clear hi)
   refine hK.out _ _ ⟨(blk_cell BK275.out 0).trans rfl, (blk_cell BK275.out 1).trans rfl, (blk_cell BK275.out 2).trans rfl, (blk_cell BK275.out 3).trans rfl, (blk_cell BK276.out 0).trans rfl⟩ (fun hHeld => ?_)
   clear hK K
   refine norm_ (a' := ?_) ?_ ?_
   rotate_left
   ·show Act.put _ (some 18) _ = _
    simp only [Act.put, List.setIfInBounds_toArray, List.set_cons_zero, List.set_cons_succ, i64_w, i32_w]
    rfl
   refine yq_ (i := 5) (N := some 6) bq_72 (by kernel_rfl) ?_
   refine done_ (by kernel_rfl) ?_
   have hcz27_0 : w26.cell? ⟨gb276, 0, none⟩ = some (.slice A1_0 l1_0.length c1_0) := (blk_cell BK276.out 0).trans rfl
   have hfz27_0 := blk_frozen BK276.out 0
   try go_wp2_with (first | ((with_reducible refine gate_callee (f := 26) rfl ?_); refine goesL_ (some 20) rfl rfl Tryd.func26 (by kernel_rfl) rfl #[.agg #[.slice A1_0 l1_0.length c1_0]] rfl tq_1 ?_; (with_reducible refine (laws_toView.calls k _ _ l1_0 t286 _ ?side1 ?side2 A13.out).mono ?_); (case side1 => exact tq_4); (case side2 => exact HC1_0.out); rintro e w28 ⟨v287, rfl, ho0, hb⟩; refine ⟨_, rfl, ?_⟩; have n0_ := Aside0.mk (Kd.R_elder' tq_11 (Kd.R_base ho0) hb); have n1_ := Aside0.mk (Kd.R_lower (Kd.R_new' ho0 (Kd.R_lt tq_11)) (below_size tq_2)); have n2_ := Aside0.mk (blk_below (g := gb275) (o := .cells #[.int .i64 a0_0, .int .i64 a0_1, .int .i64 a0_2, .int .i64 a0_3] 56 (0, 0)) tq_3 hb); have n3_ := Aside0.mk (blk_below (g := gb276) (o := .cells #[.slice A1_0 l1_0.length c1_0] 32 (0, 0)) tq_7 hb); have n4_ := Aside0.mk (below_step tq_2 hb); clear HO284; clear BK275; clear BK276; clear HB; have HO284 := n0_; have HO288 := n1_; have BK275 := n2_; have BK276 := n3_; have HB := n4_; clear n0_ n1_ n2_ n3_ n4_; (try clear hb); (try clear hb2); (try clear hk); (try clear hi); (try clear ho0)) | ((with_reducible refine gate_dst (N := 7) rfl ?_); refine box_event ?hg (N := 7) ?hd (cs := #[.slice none 0 0]) (t := 37) ?hr ?_; (case hd => rfl); (case hg => rfl); (case hr => first | (go_simp; done) | (go_simp; rfl)); intro gb289 hg w29 hbox hb; have n0_ := Aside0.mk (Kd.R_below tq_11 hb); have n1_ := Aside0.mk (Kd.R_below tq_19 hb); have n2_ := Aside0.mk (blk_below (g := gb275) (o := .cells #[.int .i64 a0_0, .int .i64 a0_1, .int .i64 a0_2, .int .i64 a0_3] 56 (0, 0)) tq_3 hb); have n3_ := Aside0.mk (blk_below (g := gb276) (o := .cells #[.slice A1_0 l1_0.length c1_0] 32 (0, 0)) tq_7 hb); have n4_ := Aside0.mk (below_step tq_2 hb); have n5_ := Aside0.mk (hbox); have n6_ := Aside0.mk ((by rw [hg]; exact (below_size tq_2) : w.heap.size ≤ gb289)); have n7_ := Aside0.mk ((by rw [hg]; exact (below_size tq_2) : w.heap.size ≤ gb289)); have n8_ := Aside0.mk ((by rw [hg]; exact Nat.ne_of_lt (blk_lt (g := gb275) (o := .cells #[.int .i64 a0_0, .int .i64 a0_1, .int .i64 a0_2, .int .i64 a0_3] 56 (0, 0)) tq_3) : gb275 ≠ gb289)); have n9_ := Aside0.mk ((by rw [hg]; exact Nat.ne_of_gt (blk_lt (g := gb275) (o := .cells #[.int .i64 a0_0, .int .i64 a0_1, .int .i64 a0_2, .int .i64 a0_3] 56 (0, 0)) tq_3) : gb289 ≠ gb275)); have n10_ := Aside0.mk ((by rw [hg]; exact Nat.ne_of_lt (blk_lt (g := gb276) (o := .cells #[.slice A1_0 l1_0.length c1_0] 32 (0, 0)) tq_7) : gb276 ≠ gb289)); have n11_ := Aside0.mk ((by rw [hg]; exact Nat.ne_of_gt (blk_lt (g := gb276) (o := .cells #[.slice A1_0 l1_0.length c1_0] 32 (0, 0)) tq_7) : gb289 ≠ gb276)); clear HO284; clear HO288; clear BK275; clear BK276; clear HB; have HO284 := n0_; have HO288 := n1_; have BK275 := n2_; have BK276 := n3_; have HB := n4_; have BK289 := n5_; have GW289 := n6_; have GE289 := n7_; have NB275_289 := n8_; have NB289_275 := n9_; have NB276_289 := n10_; have NB289_276 := n11_; clear n0_ n1_ n2_ n3_ n4_ n5_ n6_ n7_ n8_ n9_ n10_ n11_; clear hb hbox hg; obtain ⟨Ao30, co30, eo30⟩ := Kd.R_slice HO288.out; subst eo30; have hnb31 := NB289_275.out; have hnc31 := NB275_289.out; have hnb32 := NB289_276.out; have hnc32 := NB276_289.out; have hcz33_0 : w29.cell? ⟨gb289, 0, none⟩ = some (.slice none 0 0) := (blk_cell BK289.out 0).trans rfl; have hfz33_0 := blk_frozen BK289.out 0))
   have n0_ : Aside0 (Kd.R k75 75 (w29.setCell ⟨gb289, 0, none⟩ (.slice Ao30 t286.length co30)) w.heap.size (fun k_ => some k_ ≠ (.slice Ao30 t286.length co30 : Value).ownBlock) (.slice Ao25 t282.length co25) t282) := ⟨by (with_reducible repeat (first | apply Kd.R_alloc | apply Kd.R_drewN | apply Kd.R_drew)); exact Kd.R_mono (Kd.R_far (p := ⟨gb289, 0, none⟩) (Kd.R_types HO284.out BK289.out (by decide)) (fun _ hk => hk.2) (.slice Ao30 t286.length co30)) (fun _ hk => hk.1.2)⟩
   have n1_ : Aside0 (Kd.R k75 75 (w29.setCell ⟨gb289, 0, none⟩ (.slice Ao30 t286.length co30)) w.heap.size (fun k_ => some k_ ≠ (.slice Ao25 t282.length co25 : Value).ownBlock) (.slice Ao30 t286.length co30) t286) := ⟨by (with_reducible repeat (first | apply Kd.R_alloc | apply Kd.R_drewN | apply Kd.R_drew)); exact Kd.R_mono (Kd.R_far (p := ⟨gb289, 0, none⟩) (Kd.R_types HO288.out BK289.out (by decide)) (fun _ hk => hk.2) (.slice Ao30 t286.length co30)) (fun _ hk => hk.1.2)⟩
   have n2_ : Aside0 ((w29.setCell ⟨gb289, 0, none⟩ (.slice Ao30 t286.length co30)).heap[gb275]? = some (.cells #[.int .i64 a0_0, .int .i64 a0_1, .int .i64 a0_2, .int .i64 a0_3] 56 (0, 0))) := ⟨by (with_reducible repeat (first | refine blk_drewN ?_ _ | refine blk_drew ?_ | refine blk_alloc ?_ _)); refine blk_far ?_ NB275_289.out _; (with_reducible repeat (first | refine blk_drewN ?_ _ | refine blk_drew ?_ | refine blk_alloc ?_ _)); exact BK275.out⟩
   have n3_ : Aside0 ((w29.setCell ⟨gb289, 0, none⟩ (.slice Ao30 t286.length co30)).heap[gb276]? = some (.cells #[.slice A1_0 l1_0.length c1_0] 32 (0, 0))) := ⟨by (with_reducible repeat (first | refine blk_drewN ?_ _ | refine blk_drew ?_ | refine blk_alloc ?_ _)); refine blk_far ?_ NB276_289.out _; (with_reducible repeat (first | refine blk_drewN ?_ _ | refine blk_drew ?_ | refine blk_alloc ?_ _)); exact BK276.out⟩
   have n4_ : Aside0 ((w29.setCell ⟨gb289, 0, none⟩ (.slice Ao30 t286.length co30)).heap[gb289]? = some (.cells #[.slice Ao30 t286.length co30] 37 (0, 0))) := ⟨by (with_reducible repeat (first | refine blk_drewN ?_ _ | refine blk_drew ?_ | refine blk_alloc ?_ _)); refine blk_put (cs := #[.slice none 0 0]) ?_ 0 _ rfl; (with_reducible repeat (first | refine blk_drewN ?_ _ | refine blk_drew ?_ | refine blk_alloc ?_ _)); exact BK289.out⟩
   have n5_ : Aside0 (Below w.heap.size w (w29.setCell ⟨gb289, 0, none⟩ (.slice Ao30 t286.length co30))) := ⟨by repeat (first | (with_reducible first | exact HB.out | apply below_alloc | apply pw_below_drewN | apply below_drew1 | refine below_set ?_ GE275.out | refine below_set ?_ GE276.out | refine below_set ?_ GE289.out) | exact HB.out)⟩
   (try clear HO284)
   (try clear HO288)
   (try clear BK275)
   (try clear BK276)
   (try clear BK289)
   (try clear HB)
   generalize (w29.setCell ⟨gb289, 0, none⟩ (.slice Ao30 t286.length co30)) = w34 at n0_ n1_ n2_ n3_ n4_ n5_ ⊢
   have HO284 := n0_
   have HO288 := n1_
   have BK275 := n2_
   have BK276 := n3_
   have BK289 := n4_
   have HB := n5_
   clear n0_ n1_ n2_ n3_ n4_ n5_
   have n0_ := Aside0.mk (Kd.R_drew HO284.out)
   have n1_ := Aside0.mk (Kd.R_drew HO288.out)
   have n2_ := Aside0.mk (blk_drew BK275.out)
   have n3_ := Aside0.mk (blk_drew BK276.out)
   have n4_ := Aside0.mk (blk_drew BK289.out)
   have n5_ := Aside0.mk (below_drew1 HB.out)
   clear HO284
   clear HO288
   clear BK275
   clear BK276
   clear BK289
   clear HB
   have HO284 := n0_
   have HO288 := n1_
   have BK275 := n2_
   have BK276 := n3_
   have BK289 := n4_
   have HB := n5_
   clear n0_ n1_ n2_ n3_ n4_ n5_
   refine start_ (n := 5) (S := fun w' => w'.cell? ⟨gb275, 0, none⟩ = some (.int .i64 a0_0) ∧ w'.cell? ⟨gb275, 1, none⟩ = some (.int .i64 a0_1) ∧ w'.cell? ⟨gb275, 2, none⟩ = some (.int .i64 a0_2) ∧ w'.cell? ⟨gb275, 3, none⟩ = some (.int .i64 a0_3) ∧ w'.cell? ⟨gb289, 0, none⟩ = some (.slice Ao30 t286.length co30)) (ds := []) bq_62 (by kernel_rfl) rfl rfl ⟨(blk_cell BK275.out 0).trans rfl, (blk_cell BK275.out 1).trans rfl, (blk_cell BK275.out 2).trans rfl, (blk_cell BK275.out 3).trans rfl, (blk_cell BK289.out 0).trans rfl⟩ (fun hHeld => ?_)
   generalize w34.drew = w35 at HO284 HO288 BK275 BK276 BK289 HB hHeld ⊢
   refine take_ (i := 0) (N := some 21) (v := ?_) (a' := ?_) bq_63 rfl rfl (by kernel_rfl) (fun _ _ _ h => h) (Or.inl ⟨by rfl, ?_⟩) hHeld ?_ ?_
   rotate_left
   ·rintro w' ⟨s0, s1, s2, s3, s4⟩
    go_simp
    with_reducible rfl
   rotate_left
   ·simp only [Act.put, List.setIfInBounds_toArray, List.set_cons_zero, List.set_cons_succ, i64_w, i32_w]
    rfl
   refine take_ (i := 2) (N := some 23) (v := ?_) (a' := ?_) bq_103 rfl rfl (by kernel_rfl) (fun _ _ _ h => h) (Or.inl ⟨by rfl, ?_⟩) hHeld ?_ ?_
   rotate_left
   ·rintro w' ⟨s0, s1, s2, s3, s4⟩
    go_simp
    with_reducible rfl
   rotate_left
   ·simp only [Act.put, List.setIfInBounds_toArray, List.set_cons_zero, List.set_cons_succ, i64_w, i32_w]
    rfl
   refine one_ (i := 1) (N := some 22) bq_64 rfl rfl (by kernel_rfl) (by decide) (fun K hK => ?_)
   refine goes_ Tryd.func38 (by kernel_rfl) rfl #[.agg #[.int .i64 a0_0, .int .i64 a0_1, .int .i64 a0_2, .int .i64 a0_3]] (by rfl) rfl rfl tq_1 ?_
   with_reducible refine (laws_toGeo.calls a0_0 a0_1 a0_2 a0_3 t290 t291 t292 t293 _ A14.out).mono ?_
   rintro e w36 ⟨rfl, hb⟩
   refine ⟨_, rfl, ?_⟩
   have n0_ := Aside0.mk (Kd.R_below tq_11 hb)
   have n1_ := Aside0.mk (Kd.R_below tq_19 hb)
   have n2_ := Aside0.mk (blk_below (g := gb275) (o := .cells #[.int .i64 a0_0, .int .i64 a0_1, .int .i64 a0_2, .int .i64 a0_3] 56 (0, 0)) tq_3 hb)
   have n3_ := Aside0.mk (blk_below (g := gb276) (o := .cells #[.slice A1_0 l1_0.length c1_0] 32 (0, 0)) tq_7 hb)
   have n4_ := Aside0.mk (blk_below (g := gb289) (o := .cells #[.slice Ao30 t286.length co30] 37 (0, 0)) tq_26 hb)
   have n5_ := Aside0.mk (below_step tq_9 hb)
   clear HO284
   clear HO288
   clear BK275
   clear BK276
   clear BK289
   clear HB
   have HO284 := n0_
   have HO288 := n1_
   have BK275 := n2_
   have BK276 := n3_
   have BK289 := n4_
   have HB := n5_
   clear n0_ n1_ n2_ n3_ n4_ n5_
   (try clear hb)
   (try clear hb2)
   (try clear hk)
   (try clear hi)
   refine hK.out _ _ ⟨(blk_cell BK275.out 0).trans rfl, (blk_cell BK275.out 1).trans rfl, (blk_cell BK275.out 2).trans rfl, (blk_cell BK275.out 3).trans rfl, (blk_cell BK289.out 0).trans rfl⟩ (fun hHeld => ?_)
   clear hK K
   refine norm_ (a' := ?_) ?_ ?_
   rotate_left
   ·show Act.put _ (some 22) _ = _
    simp only [Act.put, List.setIfInBounds_toArray, List.set_cons_zero, List.set_cons_succ, i64_w, i32_w]
    rfl
   refine one_ (i := 3) (N := some 24) bq_65 rfl rfl (by kernel_rfl) (by decide) (fun K hK => ?_)
   refine goes_ Tryd.func39 (by kernel_rfl) rfl #[.agg #[.int .i64 t290, .int .i64 t291, .int .i64 t292, .int .i64 t293], .agg #[.slice Ao30 t286.length co30]] (by rfl) rfl rfl tq_1 ?_
   with_reducible refine (impl_ViewOk.calls k t290 t291 t292 t293 _ _ t286 t294 _ ?side1 ?side2 ?side3 A15.out).mono ?_
   (case side1 => exact DoorOk.below HD.out tq_9)
   (case side2 => exact tq_35)
   (case side3 => exact (Kd.R_reads' HO288.out).2.1)
   rintro e w37 ⟨rfl, hb⟩
   refine ⟨_, rfl, ?_⟩
   have n0_ := Aside0.mk (Kd.R_below tq_11 hb)
   have n1_ := Aside0.mk (Kd.R_below tq_19 hb)
   have n2_ := Aside0.mk (blk_below (g := gb275) (o := .cells #[.int .i64 a0_0, .int .i64 a0_1, .int .i64 a0_2, .int .i64 a0_3] 56 (0, 0)) tq_3 hb)
   have n3_ := Aside0.mk (blk_below (g := gb276) (o := .cells #[.slice A1_0 l1_0.length c1_0] 32 (0, 0)) tq_7 hb)
   have n4_ := Aside0.mk (blk_below (g := gb289) (o := .cells #[.slice Ao30 t286.length co30] 37 (0, 0)) tq_26 hb)
   have n5_ := Aside0.mk (below_step tq_9 hb)
   clear HO284
   clear HO288
   clear BK275
   clear BK276
   clear BK289
   clear HB
   have HO284 := n0_
   have HO288 := n1_
   have BK275 := n2_
   have BK276 := n3_
   have BK289 := n4_
   have HB := n5_
   clear n0_ n1_ n2_ n3_ n4_ n5_
   (try clear hb)
   (try clear hb2)
   (try clear hk)
   (try clear hi)
   refine hK.out _ _ ⟨(blk_cell BK275.out 0).trans rfl, (blk_cell BK275.out 1).trans rfl, (blk_cell BK275.out 2).trans rfl, (blk_cell BK275.out 3).trans rfl, (blk_cell BK289.out 0).trans rfl⟩ (fun hHeld => ?_)
   clear hK K
   refine norm_ (a' := ?_) ?_ ?_
   rotate_left
   ·show Act.put _ (some 24) _ = _
    simp only [Act.put, List.setIfInBounds_toArray, List.set_cons_zero, List.set_cons_succ, i64_w, i32_w]
    rfl
   refine yq_ (i := 4) (N := some 8) bq_66 (by kernel_rfl) ?_
   refine done_ (by kernel_rfl) ?_
   try go_wp2
   go_ret
   exact ⟨by first | rfl | (simp [errW_none, errW_some] <;> rfl) | (simp [*, errW_none, errW_some] <;> rfl), by repeat (first | (with_reducible first | exact HB.out | apply below_alloc | apply pw_below_drewN | apply below_drew1 | refine below_set ?_ GE275.out | refine below_set ?_ GE276.out | refine below_set ?_ GE289.out) | exact HB.out)⟩
  ·rw [if_neg c16] at H
   have c16b0 : (t294 != t285) = false := by simpa using c16
   (try (have c16b1 : decide (t294 = t285) = true := by simpa using c16))
   (try (have c16b2 : (t294 == t285) = true := by simpa using c16))
   clear c16
   replace H := Option.bind_eq_some_iff.mp H
   obtain ⟨t295, A380, H⟩ := H
   replace H : ((laws_eqView.f k t286 t295).bind fun t298 => (if t298 = true then (some true) else (some false))) = some r := H
   have A38 := Aside0.mk A380
   clear A380
   replace H := Option.bind_eq_some_iff.mp H
   obtain ⟨t298, A390, H⟩ := H
   replace H : (if t298 = true then (some true) else (some false)) = some r := H
   have A39 := Aside0.mk A390
   clear A390
   by_cases c40 : t298 = true
   ·subst c40
    have H1 : (some true) = some r := by rw [if_pos rfl] at H; exact H
    clear H
    have H := H1
    clear H1
    obtain rfl := Option.some.inj H
    go_enter Tryd.func10, Tryd.ntmps10
    try go_wp2_with (first | ((with_reducible refine gate_dst (N := 2) rfl ?_); refine box_event ?hg (N := 2) ?hd (cs := #[.int .i64 a0_0, .int .i64 a0_1, .int .i64 a0_2, .int .i64 a0_3]) (t := 56) ?hr ?_; (case hd => rfl); (case hg => rfl); (case hr => first | (go_simp; done) | (go_simp; rfl)); intro gb275 hg w41 hbox hb; have n0_ := Aside0.mk (below_step tq_0 hb); have n1_ := Aside0.mk (hbox); have n2_ := Aside0.mk ((by rw [hg]; exact (below_size tq_0) : w.heap.size ≤ gb275)); have n3_ := Aside0.mk ((by rw [hg]; exact (below_size tq_0) : w.heap.size ≤ gb275)); clear HB; have HB := n0_; have BK275 := n1_; have GW275 := n2_; have GE275 := n3_; clear n0_ n1_ n2_ n3_; clear hb hbox hg) | ((with_reducible refine gate_dst (N := 3) rfl ?_); refine box_event ?hg (N := 3) ?hd (cs := #[.slice A1_0 l1_0.length c1_0]) (t := 32) ?hr ?_; (case hd => rfl); (case hg => rfl); (case hr => first | (go_simp; done) | (go_simp; rfl)); intro gb276 hg w42 hbox hb; have n0_ := Aside0.mk (blk_below (g := gb275) (o := .cells #[.int .i64 a0_0, .int .i64 a0_1, .int .i64 a0_2, .int .i64 a0_3] 56 (0, 0)) tq_3 hb); have n1_ := Aside0.mk (below_step tq_14 hb); have n2_ := Aside0.mk (hbox); have n3_ := Aside0.mk ((by rw [hg]; exact (below_size tq_14) : w.heap.size ≤ gb276)); have n4_ := Aside0.mk ((by rw [hg]; exact (below_size tq_14) : w.heap.size ≤ gb276)); have n5_ := Aside0.mk ((by rw [hg]; exact Nat.ne_of_lt (blk_lt (g := gb275) (o := .cells #[.int .i64 a0_0, .int .i64 a0_1, .int .i64 a0_2, .int .i64 a0_3] 56 (0, 0)) tq_3) : gb275 ≠ gb276)); have n6_ := Aside0.mk ((by rw [hg]; exact Nat.ne_of_gt (blk_lt (g := gb275) (o := .cells #[.int .i64 a0_0, .int .i64 a0_1, .int .i64 a0_2, .int .i64 a0_3] 56 (0, 0)) tq_3) : gb276 ≠ gb275)); clear BK275; clear HB; have BK275 := n0_; have HB := n1_; have BK276 := n2_; have GW276 := n3_; have GE276 := n4_; have NB275_276 := n5_; have NB276_275 := n6_; clear n0_ n1_ n2_ n3_ n4_ n5_ n6_; clear hb hbox hg; have hnb43 := NB276_275.out; have hnc43 := NB275_276.out; have hcz44_0 : w42.cell? ⟨gb276, 0, none⟩ = some (.slice A1_0 l1_0.length c1_0) := (blk_cell BK276.out 0).trans rfl; have hfz44_0 := blk_frozen BK276.out 0) | ((with_reducible refine gate_callee (f := 24) rfl ?_); refine goesL_ (some 11) rfl rfl Tryd.func24 (by kernel_rfl) rfl #[.agg #[.slice A1_0 l1_0.length c1_0], .int .i64 1048576] rfl tq_1 ?_; (with_reducible refine (laws_szView.calls k _ _ l1_0 1048576 t277 _ ?side1 ?side2 A3.out).mono ?_); (case side1 => exact tq_4); (case side2 => exact HC1_0.out); rintro e w45 ⟨rfl, hb⟩; refine ⟨_, rfl, ?_⟩; have n0_ := Aside0.mk (blk_below (g := gb275) (o := .cells #[.int .i64 a0_0, .int .i64 a0_1, .int .i64 a0_2, .int .i64 a0_3] 56 (0, 0)) tq_3 hb); have n1_ := Aside0.mk (blk_below (g := gb276) (o := .cells #[.slice A1_0 l1_0.length c1_0] 32 (0, 0)) tq_7 hb); have n2_ := Aside0.mk (below_step tq_2 hb); clear BK275; clear BK276; clear HB; have BK275 := n0_; have BK276 := n1_; have HB := n2_; clear n0_ n1_ n2_; (try clear hb); (try clear hb2); (try clear hk); (try clear hi)))
    have n0_ := Aside0.mk (blk_drew BK275.out)
    have n1_ := Aside0.mk (blk_drew BK276.out)
    have n2_ := Aside0.mk (below_drew1 HB.out)
    clear BK275
    clear BK276
    clear HB
    have BK275 := n0_
    have BK276 := n1_
    have HB := n2_
    clear n0_ n1_ n2_
    refine start_ (n := 6) (S := fun w' => w'.cell? ⟨gb275, 0, none⟩ = some (.int .i64 a0_0) ∧ w'.cell? ⟨gb275, 1, none⟩ = some (.int .i64 a0_1) ∧ w'.cell? ⟨gb275, 2, none⟩ = some (.int .i64 a0_2) ∧ w'.cell? ⟨gb275, 3, none⟩ = some (.int .i64 a0_3) ∧ w'.cell? ⟨gb276, 0, none⟩ = some (.slice A1_0 l1_0.length c1_0)) (ds := []) bq_68 (by kernel_rfl) rfl rfl ⟨(blk_cell BK275.out 0).trans rfl, (blk_cell BK275.out 1).trans rfl, (blk_cell BK275.out 2).trans rfl, (blk_cell BK275.out 3).trans rfl, (blk_cell BK276.out 0).trans rfl⟩ (fun hHeld => ?_)
    generalize w45.drew = w46 at BK275 BK276 HB hHeld ⊢
    refine take_ (i := 0) (N := some 14) (v := ?_) (a' := ?_) bq_101 rfl rfl (by kernel_rfl) (fun _ _ _ h => h) (Or.inl ⟨by rfl, ?_⟩) hHeld ?_ ?_
    rotate_left
    ·rintro w' ⟨s0, s1, s2, s3, s4⟩
     go_simp
     with_reducible rfl
    rotate_left
    ·simp only [Act.put, List.setIfInBounds_toArray, List.set_cons_zero, List.set_cons_succ, i64_w, i32_w]
     rfl
    refine take_ (i := 2) (N := some 16) (v := ?_) (a' := ?_) bq_69 rfl rfl (by kernel_rfl) (fun _ _ _ h => h) (Or.inl ⟨by rfl, ?_⟩) hHeld ?_ ?_
    rotate_left
    ·rintro w' ⟨s0, s1, s2, s3, s4⟩
     go_simp
     with_reducible rfl
    rotate_left
    ·simp only [Act.put, List.setIfInBounds_toArray, List.set_cons_zero, List.set_cons_succ, i64_w, i32_w]
     rfl
    refine one_ (i := 1) (N := some 15) bq_102 rfl rfl (by kernel_rfl) (by decide) (fun K hK => ?_)
    refine goes_ Tryd.func38 (by kernel_rfl) rfl #[.agg #[.int .i64 a0_0, .int .i64 a0_1, .int .i64 a0_2, .int .i64 a0_3]] (by rfl) rfl rfl tq_1 ?_
    with_reducible refine (laws_toGeo.calls a0_0 a0_1 a0_2 a0_3 t278 t279 t280 t281 _ A10.out).mono ?_
    rintro e w47 ⟨rfl, hb⟩
    refine ⟨_, rfl, ?_⟩
    have n0_ := Aside0.mk (blk_below (g := gb275) (o := .cells #[.int .i64 a0_0, .int .i64 a0_1, .int .i64 a0_2, .int .i64 a0_3] 56 (0, 0)) tq_3 hb)
    have n1_ := Aside0.mk (blk_below (g := gb276) (o := .cells #[.slice A1_0 l1_0.length c1_0] 32 (0, 0)) tq_7 hb)
    have n2_ := Aside0.mk (below_step tq_2 hb)
    clear BK275
    clear BK276
    clear HB
    have BK275 := n0_
    have BK276 := n1_
    have HB := n2_
    clear n0_ n1_ n2_
    (try clear hb)
    (try clear hb2)
    (try clear hk)
    (try clear hi)
    refine hK.out _ _ ⟨(blk_cell BK275.out 0).trans rfl, (blk_cell BK275.out 1).trans rfl, (blk_cell BK275.out 2).trans rfl, (blk_cell BK275.out 3).trans rfl, (blk_cell BK276.out 0).trans rfl⟩ (fun hHeld => ?_)
    clear hK K
    refine norm_ (a' := ?_) ?_ ?_
    rotate_left
    ·show Act.put _ (some 15) _ = _
     simp only [Act.put, List.setIfInBounds_toArray, List.set_cons_zero, List.set_cons_succ, i64_w, i32_w]
     rfl
    refine one_ (i := 3) (N := some 17) bq_70 rfl rfl (by kernel_rfl) (by decide) (fun K hK => ?_)
    refine goes_ Tryd.func26 (by kernel_rfl) rfl #[.agg #[.slice A1_0 l1_0.length c1_0]] (by rfl) rfl rfl tq_1 ?_
    with_reducible refine (laws_toView.calls k _ _ l1_0 t282 _ ?side1 ?side2 A11.out).mono ?_
    (case side1 => exact tq_4)
    (case side2 => exact HC1_0.out)
    rintro e w48 ⟨v283, rfl, ho0, hb⟩
    refine ⟨_, rfl, ?_⟩
    have n0_ := Aside0.mk (Kd.R_lower ho0 (below_size tq_2))
    have n1_ := Aside0.mk (blk_below (g := gb275) (o := .cells #[.int .i64 a0_0, .int .i64 a0_1, .int .i64 a0_2, .int .i64 a0_3] 56 (0, 0)) tq_3 hb)
    have n2_ := Aside0.mk (blk_below (g := gb276) (o := .cells #[.slice A1_0 l1_0.length c1_0] 32 (0, 0)) tq_7 hb)
    have n3_ := Aside0.mk (below_step tq_2 hb)
    clear BK275
    clear BK276
    clear HB
    have HO284 := n0_
    have BK275 := n1_
    have BK276 := n2_
    have HB := n3_
    clear n0_ n1_ n2_ n3_
    (try clear hb)
    (try clear hb2)
    (try clear hk)
    (try clear hi)
    (try clear ho0)
    obtain ⟨Ao49, co49, eo49⟩ := Kd.R_slice HO284.out
    (first | subst eo49 | (injection eo49 with f1_ f2_ f3_; have f4_ := f1_.symm; have f5_ := f3_.symm; clear f1_ f2_ f3_; subst f4_; subst f5_))
    refine hK.out _ _ ⟨(blk_cell BK275.out 0).trans rfl, (blk_cell BK275.out 1).trans rfl, (blk_cell BK275.out 2).trans rfl, (blk_cell BK275.out 3).trans rfl, (blk_cell BK276.out 0).trans rfl⟩ (fun hHeld => ?_)
    clear hK K
    refine norm_ (a' := ?_) ?_ ?_
    rotate_left
    ·show Act.put _ (some 17) _ = _
     simp only [Act.put, List.setIfInBounds_toArray, List.set_cons_zero, List.set_cons_succ, i64_w, i32_w]
     rfl
    refine one_ (i := 4) (N := some 18) bq_71 rfl rfl (by kernel_rfl) (by decide) (fun K hK => ?_)
    refine goes_ Tryd.func37 (by kernel_rfl) rfl #[.agg #[.int .i64 t278, .int .i64 t279, .int .i64 t280, .int .i64 t281], .agg #[.slice Ao49 t282.length co49]] (by rfl) rfl rfl tq_1 ?_
    with_reducible refine (spec_ViewOk.calls k t278 t279 t280 t281 _ _ t282 t285 _ ?side1 ?side2 A12.out).mono ?_
    (case side1 => exact tq_54)
    (case side2 => exact (Kd.R_reads' HO284.out).2.1)
    rintro e w50 ⟨rfl, hb⟩
    refine ⟨_, rfl, ?_⟩
    have n0_ := Aside0.mk (Kd.R_below tq_11 hb)
    have n1_ := Aside0.mk (blk_below (g := gb275) (o := .cells #[.int .i64 a0_0, .int .i64 a0_1, .int .i64 a0_2, .int .i64 a0_3] 56 (0, 0)) tq_3 hb)
    have n2_ := Aside0.mk (blk_below (g := gb276) (o := .cells #[.slice A1_0 l1_0.length c1_0] 32 (0, 0)) tq_7 hb)
    have n3_ := Aside0.mk (below_step tq_2 hb)
    clear HO284
    clear BK275
    clear BK276
    clear HB
    have HO284 := n0_
    have BK275 := n1_
    have BK276 := n2_
    have HB := n3_
    clear n0_ n1_ n2_ n3_
    (try clear hb)
    (try clear hb2)
    (try clear hk)
    (try clear hi)
    refine hK.out _ _ ⟨(blk_cell BK275.out 0).trans rfl, (blk_cell BK275.out 1).trans rfl, (blk_cell BK275.out 2).trans rfl, (blk_cell BK275.out 3).trans rfl, (blk_cell BK276.out 0).trans rfl⟩ (fun hHeld => ?_)
    clear hK K
    refine norm_ (a' := ?_) ?_ ?_
    rotate_left
    ·show Act.put _ (some 18) _ = _
     simp only [Act.put, List.setIfInBounds_toArray, List.set_cons_zero, List.set_cons_succ, i64_w, i32_w]
     rfl
    refine yq_ (i := 5) (N := some 6) bq_72 (by kernel_rfl) ?_
    refine done_ (by kernel_rfl) ?_
    have hcz51_0 : w50.cell? ⟨gb276, 0, none⟩ = some (.slice A1_0 l1_0.length c1_0) := (blk_cell BK276.out 0).trans rfl
    have hfz51_0 := blk_frozen BK276.out 0
    try go_wp2_with (first | ((with_reducible refine gate_callee (f := 26) rfl ?_); refine goesL_ (some 20) rfl rfl Tryd.func26 (by kernel_rfl) rfl #[.agg #[.slice A1_0 l1_0.length c1_0]] rfl tq_1 ?_; (with_reducible refine (laws_toView.calls k _ _ l1_0 t286 _ ?side1 ?side2 A13.out).mono ?_); (case side1 => exact tq_4); (case side2 => exact HC1_0.out); rintro e w52 ⟨v287, rfl, ho0, hb⟩; refine ⟨_, rfl, ?_⟩; have n0_ := Aside0.mk (Kd.R_elder' tq_11 (Kd.R_base ho0) hb); have n1_ := Aside0.mk (Kd.R_lower (Kd.R_new' ho0 (Kd.R_lt tq_11)) (below_size tq_2)); have n2_ := Aside0.mk (blk_below (g := gb275) (o := .cells #[.int .i64 a0_0, .int .i64 a0_1, .int .i64 a0_2, .int .i64 a0_3] 56 (0, 0)) tq_3 hb); have n3_ := Aside0.mk (blk_below (g := gb276) (o := .cells #[.slice A1_0 l1_0.length c1_0] 32 (0, 0)) tq_7 hb); have n4_ := Aside0.mk (below_step tq_2 hb); clear HO284; clear BK275; clear BK276; clear HB; have HO284 := n0_; have HO288 := n1_; have BK275 := n2_; have BK276 := n3_; have HB := n4_; clear n0_ n1_ n2_ n3_ n4_; (try clear hb); (try clear hb2); (try clear hk); (try clear hi); (try clear ho0)) | ((with_reducible refine gate_dst (N := 7) rfl ?_); refine box_event ?hg (N := 7) ?hd (cs := #[.slice none 0 0]) (t := 37) ?hr ?_; (case hd => rfl); (case hg => rfl); (case hr => first | (go_simp; done) | (go_simp; rfl)); intro gb289 hg w53 hbox hb; have n0_ := Aside0.mk (Kd.R_below tq_11 hb); have n1_ := Aside0.mk (Kd.R_below tq_19 hb); have n2_ := Aside0.mk (blk_below (g := gb275) (o := .cells #[.int .i64 a0_0, .int .i64 a0_1, .int .i64 a0_2, .int .i64 a0_3] 56 (0, 0)) tq_3 hb); have n3_ := Aside0.mk (blk_below (g := gb276) (o := .cells #[.slice A1_0 l1_0.length c1_0] 32 (0, 0)) tq_7 hb); have n4_ := Aside0.mk (below_step tq_2 hb); have n5_ := Aside0.mk (hbox); have n6_ := Aside0.mk ((by rw [hg]; exact (below_size tq_2) : w.heap.size ≤ gb289)); have n7_ := Aside0.mk ((by rw [hg]; exact (below_size tq_2) : w.heap.size ≤ gb289)); have n8_ := Aside0.mk ((by rw [hg]; exact Nat.ne_of_lt (blk_lt (g := gb275) (o := .cells #[.int .i64 a0_0, .int .i64 a0_1, .int .i64 a0_2, .int .i64 a0_3] 56 (0, 0)) tq_3) : gb275 ≠ gb289)); have n9_ := Aside0.mk ((by rw [hg]; exact Nat.ne_of_gt (blk_lt (g := gb275) (o := .cells #[.int .i64 a0_0, .int .i64 a0_1, .int .i64 a0_2, .int .i64 a0_3] 56 (0, 0)) tq_3) : gb289 ≠ gb275)); have n10_ := Aside0.mk ((by rw [hg]; exact Nat.ne_of_lt (blk_lt (g := gb276) (o := .cells #[.slice A1_0 l1_0.length c1_0] 32 (0, 0)) tq_7) : gb276 ≠ gb289)); have n11_ := Aside0.mk ((by rw [hg]; exact Nat.ne_of_gt (blk_lt (g := gb276) (o := .cells #[.slice A1_0 l1_0.length c1_0] 32 (0, 0)) tq_7) : gb289 ≠ gb276)); clear HO284; clear HO288; clear BK275; clear BK276; clear HB; have HO284 := n0_; have HO288 := n1_; have BK275 := n2_; have BK276 := n3_; have HB := n4_; have BK289 := n5_; have GW289 := n6_; have GE289 := n7_; have NB275_289 := n8_; have NB289_275 := n9_; have NB276_289 := n10_; have NB289_276 := n11_; clear n0_ n1_ n2_ n3_ n4_ n5_ n6_ n7_ n8_ n9_ n10_ n11_; clear hb hbox hg; obtain ⟨Ao54, co54, eo54⟩ := Kd.R_slice HO288.out; subst eo54; have hnb55 := NB289_275.out; have hnc55 := NB275_289.out; have hnb56 := NB289_276.out; have hnc56 := NB276_289.out; have hcz57_0 : w53.cell? ⟨gb289, 0, none⟩ = some (.slice none 0 0) := (blk_cell BK289.out 0).trans rfl; have hfz57_0 := blk_frozen BK289.out 0))
    have n0_ : Aside0 (Kd.R k75 75 (w53.setCell ⟨gb289, 0, none⟩ (.slice Ao54 t286.length co54)) w.heap.size (fun k_ => some k_ ≠ (.slice Ao54 t286.length co54 : Value).ownBlock) (.slice Ao49 t282.length co49) t282) := ⟨by (with_reducible repeat (first | apply Kd.R_alloc | apply Kd.R_drewN | apply Kd.R_drew)); exact Kd.R_mono (Kd.R_far (p := ⟨gb289, 0, none⟩) (Kd.R_types HO284.out BK289.out (by decide)) (fun _ hk => hk.2) (.slice Ao54 t286.length co54)) (fun _ hk => hk.1.2)⟩
    have n1_ : Aside0 (Kd.R k75 75 (w53.setCell ⟨gb289, 0, none⟩ (.slice Ao54 t286.length co54)) w.heap.size (fun k_ => some k_ ≠ (.slice Ao49 t282.length co49 : Value).ownBlock) (.slice Ao54 t286.length co54) t286) := ⟨by (with_reducible repeat (first | apply Kd.R_alloc | apply Kd.R_drewN | apply Kd.R_drew)); exact Kd.R_mono (Kd.R_far (p := ⟨gb289, 0, none⟩) (Kd.R_types HO288.out BK289.out (by decide)) (fun _ hk => hk.2) (.slice Ao54 t286.length co54)) (fun _ hk => hk.1.2)⟩
    have n2_ : Aside0 ((w53.setCell ⟨gb289, 0, none⟩ (.slice Ao54 t286.length co54)).heap[gb275]? = some (.cells #[.int .i64 a0_0, .int .i64 a0_1, .int .i64 a0_2, .int .i64 a0_3] 56 (0, 0))) := ⟨by (with_reducible repeat (first | refine blk_drewN ?_ _ | refine blk_drew ?_ | refine blk_alloc ?_ _)); refine blk_far ?_ NB275_289.out _; (with_reducible repeat (first | refine blk_drewN ?_ _ | refine blk_drew ?_ | refine blk_alloc ?_ _)); exact BK275.out⟩
    have n3_ : Aside0 ((w53.setCell ⟨gb289, 0, none⟩ (.slice Ao54 t286.length co54)).heap[gb276]? = some (.cells #[.slice A1_0 l1_0.length c1_0] 32 (0, 0))) := ⟨by (with_reducible repeat (first | refine blk_drewN ?_ _ | refine blk_drew ?_ | refine blk_alloc ?_ _)); refine blk_far ?_ NB276_289.out _; (with_reducible repeat (first | refine blk_drewN ?_ _ | refine blk_drew ?_ | refine blk_alloc ?_ _)); exact BK276.out⟩
    have n4_ : Aside0 ((w53.setCell ⟨gb289, 0, none⟩ (.slice Ao54 t286.length co54)).heap[gb289]? = some (.cells #[.slice Ao54 t286.length co54] 37 (0, 0))) := ⟨by (with_reducible repeat (first | refine blk_drewN ?_ _ | refine blk_drew ?_ | refine blk_alloc ?_ _)); refine blk_put (cs := #[.slice none 0 0]) ?_ 0 _ rfl; (with_reducible repeat (first | refine blk_drewN ?_ _ | refine blk_drew ?_ | refine blk_alloc ?_ _)); exact BK289.out⟩
    have n5_ : Aside0 (Below w.heap.size w (w53.setCell ⟨gb289, 0, none⟩ (.slice Ao54 t286.length co54))) := ⟨by repeat (first | (with_reducible first | exact HB.out | apply below_alloc | apply pw_below_drewN | apply below_drew1 | refine below_set ?_ GE275.out | refine below_set ?_ GE276.out | refine below_set ?_ GE289.out) | exact HB.out)⟩
    (try clear HO284)
    (try clear HO288)
    (try clear BK275)
    (try clear BK276)
    (try clear BK289)
    (try clear HB)
    generalize (w53.setCell ⟨gb289, 0, none⟩ (.slice Ao54 t286.length co54)) = w58 at n0_ n1_ n2_ n3_ n4_ n5_ ⊢
    have HO284 := n0_
    have HO288 := n1_
    have BK275 := n2_
    have BK276 := n3_
    have BK289 := n4_
    have HB := n5_
    clear n0_ n1_ n2_ n3_ n4_ n5_
    have n0_ := Aside0.mk (Kd.R_drew HO284.out)
    have n1_ := Aside0.mk (Kd.R_drew HO288.out)
    have n2_ := Aside0.mk (blk_drew BK275.out)
    have n3_ := Aside0.mk (blk_drew BK276.out)
    have n4_ := Aside0.mk (blk_drew BK289.out)
    have n5_ := Aside0.mk (below_drew1 HB.out)
    clear HO284
    clear HO288
    clear BK275
    clear BK276
    clear BK289
    clear HB
    have HO284 := n0_
    have HO288 := n1_
    have BK275 := n2_
    have BK276 := n3_
    have BK289 := n4_
    have HB := n5_
    clear n0_ n1_ n2_ n3_ n4_ n5_
    refine start_ (n := 5) (S := fun w' => w'.cell? ⟨gb275, 0, none⟩ = some (.int .i64 a0_0) ∧ w'.cell? ⟨gb275, 1, none⟩ = some (.int .i64 a0_1) ∧ w'.cell? ⟨gb275, 2, none⟩ = some (.int .i64 a0_2) ∧ w'.cell? ⟨gb275, 3, none⟩ = some (.int .i64 a0_3) ∧ w'.cell? ⟨gb289, 0, none⟩ = some (.slice Ao54 t286.length co54)) (ds := []) bq_62 (by kernel_rfl) rfl rfl ⟨(blk_cell BK275.out 0).trans rfl, (blk_cell BK275.out 1).trans rfl, (blk_cell BK275.out 2).trans rfl, (blk_cell BK275.out 3).trans rfl, (blk_cell BK289.out 0).trans rfl⟩ (fun hHeld => ?_)
    generalize w58.drew = w59 at HO284 HO288 BK275 BK276 BK289 HB hHeld ⊢
    refine take_ (i := 0) (N := some 21) (v := ?_) (a' := ?_) bq_63 rfl rfl (by kernel_rfl) (fun _ _ _ h => h) (Or.inl ⟨by rfl, ?_⟩) hHeld ?_ ?_
    rotate_left
    ·rintro w' ⟨s0, s1, s2, s3, s4⟩
     go_simp
     with_reducible rfl
    rotate_left
    ·simp only [Act.put, List.setIfInBounds_toArray, List.set_cons_zero, List.set_cons_succ, i64_w, i32_w]
     rfl
    refine take_ (i := 2) (N := some 23) (v := ?_) (a' := ?_) bq_103 rfl rfl (by kernel_rfl) (fun _ _ _ h => h) (Or.inl ⟨by rfl, ?_⟩) hHeld ?_ ?_
    rotate_left
    ·rintro w' ⟨s0, s1, s2, s3, s4⟩
     go_simp
     with_reducible rfl
    rotate_left
    ·simp only [Act.put, List.setIfInBounds_toArray, List.set_cons_zero, List.set_cons_succ, i64_w, i32_w]
     rfl
    refine one_ (i := 1) (N := some 22) bq_64 rfl rfl (by kernel_rfl) (by decide) (fun K hK => ?_)
    refine goes_ Tryd.func38 (by kernel_rfl) rfl #[.agg #[.int .i64 a0_0, .int .i64 a0_1, .int .i64 a0_2, .int .i64 a0_3]] (by rfl) rfl rfl tq_1 ?_
    with_reducible refine (laws_toGeo.calls a0_0 a0_1 a0_2 a0_3 t290 t291 t292 t293 _ A14.out).mono ?_
    rintro e w60 ⟨rfl, hb⟩
    refine ⟨_, rfl, ?_⟩
    have n0_ := Aside0.mk (Kd.R_below tq_11 hb)
    have n1_ := Aside0.mk (Kd.R_below tq_19 hb)
    have n2_ := Aside0.mk (blk_below (g := gb275) (o := .cells #[.int .i64 a0_0, .int .i64 a0_1, .int .i64 a0_2, .int .i64 a0_3] 56 (0, 0)) tq_3 hb)
    have n3_ := Aside0.mk (blk_below (g := gb276) (o := .cells #[.slice A1_0 l1_0.length c1_0] 32 (0, 0)) tq_7 hb)
    have n4_ := Aside0.mk (blk_below (g := gb289) (o := .cells #[.slice Ao54 t286.length co54] 37 (0, 0)) tq_26 hb)
    have n5_ := Aside0.mk (below_step tq_9 hb)
    clear HO284
    clear HO288
    clear BK275
    clear BK276
    clear BK289
    clear HB
    have HO284 := n0_
    have HO288 := n1_
    have BK275 := n2_
    have BK276 := n3_
    have BK289 := n4_
    have HB := n5_
    clear n0_ n1_ n2_ n3_ n4_ n5_
    (try clear hb)
    (try clear hb2)
    (try clear hk)
    (try clear hi)
    refine hK.out _ _ ⟨(blk_cell BK275.out 0).trans rfl, (blk_cell BK275.out 1).trans rfl, (blk_cell BK275.out 2).trans rfl, (blk_cell BK275.out 3).trans rfl, (blk_cell BK289.out 0).trans rfl⟩ (fun hHeld => ?_)
    clear hK K
    refine norm_ (a' := ?_) ?_ ?_
    rotate_left
    ·show Act.put _ (some 22) _ = _
     simp only [Act.put, List.setIfInBounds_toArray, List.set_cons_zero, List.set_cons_succ, i64_w, i32_w]
     rfl
    refine one_ (i := 3) (N := some 24) bq_65 rfl rfl (by kernel_rfl) (by decide) (fun K hK => ?_)
    refine goes_ Tryd.func39 (by kernel_rfl) rfl #[.agg #[.int .i64 t290, .int .i64 t291, .int .i64 t292, .int .i64 t293], .agg #[.slice Ao54 t286.length co54]] (by rfl) rfl rfl tq_1 ?_
    with_reducible refine (impl_ViewOk.calls k t290 t291 t292 t293 _ _ t286 t294 _ ?side1 ?side2 ?side3 A15.out).mono ?_
    (case side1 => exact DoorOk.below HD.out tq_9)
    (case side2 => exact tq_35)
    (case side3 => exact (Kd.R_reads' HO288.out).2.1)
    rintro e w61 ⟨rfl, hb⟩
    refine ⟨_, rfl, ?_⟩
    have n0_ := Aside0.mk (Kd.R_below tq_11 hb)
    have n1_ := Aside0.mk (Kd.R_below tq_19 hb)
    have n2_ := Aside0.mk (blk_below (g := gb275) (o := .cells #[.int .i64 a0_0, .int .i64 a0_1, .int .i64 a0_2, .int .i64 a0_3] 56 (0, 0)) tq_3 hb)
    have n3_ := Aside0.mk (blk_below (g := gb276) (o := .cells #[.slice A1_0 l1_0.length c1_0] 32 (0, 0)) tq_7 hb)
    have n4_ := Aside0.mk (blk_below (g := gb289) (o := .cells #[.slice Ao54 t286.length co54] 37 (0, 0)) tq_26 hb)
    have n5_ := Aside0.mk (below_step tq_9 hb)
    clear HO284
    clear HO288
    clear BK275
    clear BK276
    clear BK289
    clear HB
    have HO284 := n0_
    have HO288 := n1_
    have BK275 := n2_
    have BK276 := n3_
    have BK289 := n4_
    have HB := n5_
    clear n0_ n1_ n2_ n3_ n4_ n5_
    (try clear hb)
    (try clear hb2)
    (try clear hk)
    (try clear hi)
    refine hK.out _ _ ⟨(blk_cell BK275.out 0).trans rfl, (blk_cell BK275.out 1).trans rfl, (blk_cell BK275.out 2).trans rfl, (blk_cell BK275.out 3).trans rfl, (blk_cell BK289.out 0).trans rfl⟩ (fun hHeld => ?_)
    clear hK K
    refine norm_ (a' := ?_) ?_ ?_
    rotate_left
    ·show Act.put _ (some 24) _ = _
     simp only [Act.put, List.setIfInBounds_toArray, List.set_cons_zero, List.set_cons_succ, i64_w, i32_w]
     rfl
    refine yq_ (i := 4) (N := some 8) bq_66 (by kernel_rfl) ?_
    refine done_ (by kernel_rfl) ?_
    try go_wp2
    have n0_ := Aside0.mk (Kd.R_drew HO284.out)
    have n1_ := Aside0.mk (Kd.R_drew HO288.out)
    have n2_ := Aside0.mk (blk_drew BK275.out)
    have n3_ := Aside0.mk (blk_drew BK276.out)
    have n4_ := Aside0.mk (blk_drew BK289.out)
    have n5_ := Aside0.mk (below_drew1 HB.out)
    clear HO284
    clear HO288
    clear BK275
    clear BK276
    clear BK289
    clear HB
    have HO284 := n0_
    have HO288 := n1_
    have BK275 := n2_
    have BK276 := n3_
    have BK289 := n4_
    have HB := n5_
    clear n0_ n1_ n2_ n3_ n4_ n5_
    refine start_ (n := 5) (S := fun w' => w'.cell? ⟨gb289, 0, none⟩ = some (.slice Ao54 t286.length co54) ∧ w'.cell? ⟨gb276, 0, none⟩ = some (.slice A1_0 l1_0.length c1_0)) (ds := []) bq_62 (by kernel_rfl) rfl rfl ⟨(blk_cell BK289.out 0).trans rfl, (blk_cell BK276.out 0).trans rfl⟩ (fun hHeld => ?_)
    generalize w61.drew = w62 at HO284 HO288 BK275 BK276 BK289 HB hHeld ⊢
    refine take_ (i := 0) (N := some 28) (v := ?_) (a' := ?_) bq_63 rfl rfl (by kernel_rfl) (fun _ _ _ h => h) (Or.inl ⟨by rfl, ?_⟩) hHeld ?_ ?_
    rotate_left
    ·rintro w' ⟨s0, s1⟩
     go_simp
     with_reducible rfl
    rotate_left
    ·simp only [Act.put, List.setIfInBounds_toArray, List.set_cons_zero, List.set_cons_succ, i64_w, i32_w]
     rfl
    refine take_ (i := 1) (N := some 29) (v := ?_) (a' := ?_) #[true, true, false, false, false] rfl rfl (by kernel_rfl) (fun _ _ _ h => h) (Or.inl ⟨by rfl, ?_⟩) hHeld ?_ ?_
    rotate_left
    ·rintro w' ⟨s0, s1⟩
     go_simp
     with_reducible rfl
    rotate_left
    ·simp only [Act.put, List.setIfInBounds_toArray, List.set_cons_zero, List.set_cons_succ, i64_w, i32_w]
     rfl
    refine one_ (i := 2) (N := some 30) bq_64 rfl rfl (by kernel_rfl) (by decide) (fun K hK => ?_)
    refine goes_ Tryd.func26 (by kernel_rfl) rfl #[.agg #[.slice A1_0 l1_0.length c1_0]] (by rfl) rfl rfl tq_1 ?_
    with_reducible refine (laws_toView.calls k _ _ l1_0 t295 _ ?side1 ?side2 A38.out).mono ?_
    (case side1 => exact tq_4)
    (case side2 => exact HC1_0.out)
    rintro e w63 ⟨v296, rfl, ho0, hb⟩
    refine ⟨_, rfl, ?_⟩
    have n0_ := Aside0.mk (Kd.R_elder' tq_11 (Kd.R_base ho0) hb)
    have n1_ := Aside0.mk (Kd.R_elder' tq_19 (Kd.R_base ho0) hb)
    have n2_ := Aside0.mk (Kd.R_lower (Kd.R_new' (Kd.R_new' ho0 (Kd.R_lt tq_11)) (Kd.R_lt tq_19)) (below_size tq_9))
    have n3_ := Aside0.mk (blk_below (g := gb275) (o := .cells #[.int .i64 a0_0, .int .i64 a0_1, .int .i64 a0_2, .int .i64 a0_3] 56 (0, 0)) tq_3 hb)
    have n4_ := Aside0.mk (blk_below (g := gb276) (o := .cells #[.slice A1_0 l1_0.length c1_0] 32 (0, 0)) tq_7 hb)
    have n5_ := Aside0.mk (blk_below (g := gb289) (o := .cells #[.slice Ao54 t286.length co54] 37 (0, 0)) tq_26 hb)
    have n6_ := Aside0.mk (below_step tq_9 hb)
    clear HO284
    clear HO288
    clear BK275
    clear BK276
    clear BK289
    clear HB
    have HO284 := n0_
    have HO288 := n1_
    have HO297 := n2_
    have BK275 := n3_
    have BK276 := n4_
    have BK289 := n5_
    have HB := n6_
    clear n0_ n1_ n2_ n3_ n4_ n5_ n6_
    (try clear hb)
    (try clear hb2)
    (try clear hk)
    (try clear hi)
    (try clear ho0)
    obtain ⟨Ao64, co64, eo64⟩ := Kd.R_slice HO297.out
    (first | subst eo64 | (injection eo64 with f1_ f2_ f3_; have f4_ := f1_.symm; have f5_ := f3_.symm; clear f1_ f2_ f3_; subst f4_; subst f5_))
    refine hK.out _ _ ⟨(blk_cell BK289.out 0).trans rfl, (blk_cell BK276.out 0).trans rfl⟩ (fun hHeld => ?_)
    clear hK K
    refine norm_ (a' := ?_) ?_ ?_
    rotate_left
    ·show Act.put _ (some 30) _ = _
     simp only [Act.put, List.setIfInBounds_toArray, List.set_cons_zero, List.set_cons_succ, i64_w, i32_w]
     rfl
    refine one_ (i := 3) (N := some 31) bq_65 rfl rfl (by kernel_rfl) (by decide) (fun K hK => ?_)
    refine goes_ Tryd.func28 (by kernel_rfl) rfl #[.agg #[.slice Ao54 t286.length co54], .agg #[.slice Ao64 t295.length co64]] (by rfl) rfl rfl tq_1 ?_
    with_reducible refine (laws_eqView.calls k _ _ t286 _ _ t295 true _ ?side1 ?side2 ?side3 ?side4 A39.out).mono ?_
    (case side1 => exact tq_35)
    (case side2 => exact (Kd.R_reads' HO288.out).2.1)
    (case side3 => exact tq_63)
    (case side4 => exact (Kd.R_reads' HO297.out).2.1)
    rintro e w65 ⟨rfl, hb⟩
    refine ⟨_, rfl, ?_⟩
    have n0_ := Aside0.mk (Kd.R_below tq_11 hb)
    have n1_ := Aside0.mk (Kd.R_below tq_19 hb)
    have n2_ := Aside0.mk (Kd.R_below (by (with_reducible repeat (first | apply Kd.R_alloc | apply Kd.R_drewN | apply Kd.R_drew)); exact HO297.out) hb)
    have n3_ := Aside0.mk (blk_below (g := gb275) (o := .cells #[.int .i64 a0_0, .int .i64 a0_1, .int .i64 a0_2, .int .i64 a0_3] 56 (0, 0)) tq_3 hb)
    have n4_ := Aside0.mk (blk_below (g := gb276) (o := .cells #[.slice A1_0 l1_0.length c1_0] 32 (0, 0)) tq_7 hb)
    have n5_ := Aside0.mk (blk_below (g := gb289) (o := .cells #[.slice Ao54 t286.length co54] 37 (0, 0)) tq_26 hb)
    have n6_ := Aside0.mk (below_step tq_9 hb)
    clear HO284
    clear HO288
    clear HO297
    clear BK275
    clear BK276
    clear BK289
    clear HB
    have HO284 := n0_
    have HO288 := n1_
    have HO297 := n2_
    have BK275 := n3_
    have BK276 := n4_
    have BK289 := n5_
    have HB := n6_
    clear n0_ n1_ n2_ n3_ n4_ n5_ n6_
    (try clear hb)
    (try clear hb2)
    (try clear hk)
    (try clear hi)
    refine hK.out _ _ ⟨(blk_cell BK289.out 0).trans rfl, (blk_cell BK276.out 0).trans rfl⟩ (fun hHeld => ?_)
    clear hK K
    refine norm_ (a' := ?_) ?_ ?_
    rotate_left
    ·show Act.put _ (some 31) _ = _
     simp only [Act.put, List.setIfInBounds_toArray, List.set_cons_zero, List.set_cons_succ, i64_w, i32_w]
     rfl
    refine yq_ (i := 4) (N := some 32) bq_66 (by kernel_rfl) ?_
    refine done_ (by kernel_rfl) ?_
    try go_wp2
    go_ret
    exact ⟨by first | rfl | (simp [errW_none, errW_some] <;> rfl) | (simp [*, errW_none, errW_some] <;> rfl), by repeat (first | (with_reducible first | exact HB.out | apply below_alloc | apply pw_below_drewN | apply below_drew1 | refine below_set ?_ GE275.out | refine below_set ?_ GE276.out | refine below_set ?_ GE289.out) | exact HB.out)⟩
   ·replace c40 := Bool.eq_false_iff.mpr c40
    subst c40
    have H1 : (some false) = some r := by rw [if_neg (show ¬ (false = true) by decide)] at H; exact H
    clear H
    have H := H1
    clear H1
    obtain rfl := Option.some.inj H
    go_enter Tryd.func10, Tryd.ntmps10
    try go_wp2_with (first | ((with_reducible refine gate_dst (N := 2) rfl ?_); refine box_event ?hg (N := 2) ?hd (cs := #[.int .i64 a0_0, .int .i64 a0_1, .int .i64 a0_2, .int .i64 a0_3]) (t := 56) ?hr ?_; (case hd => rfl); (case hg => rfl); (case hr => first | (go_simp; done) | (go_simp; rfl)); intro gb275 hg w66 hbox hb; have n0_ := Aside0.mk (below_step tq_0 hb); have n1_ := Aside0.mk (hbox); have n2_ := Aside0.mk ((by rw [hg]; exact (below_size tq_0) : w.heap.size ≤ gb275)); have n3_ := Aside0.mk ((by rw [hg]; exact (below_size tq_0) : w.heap.size ≤ gb275)); clear HB; have HB := n0_; have BK275 := n1_; have GW275 := n2_; have GE275 := n3_; clear n0_ n1_ n2_ n3_; clear hb hbox hg) | ((with_reducible refine gate_dst (N := 3) rfl ?_); refine box_event ?hg (N := 3) ?hd (cs := #[.slice A1_0 l1_0.length c1_0]) (t := 32) ?hr ?_; (case hd => rfl); (case hg => rfl); (case hr => first | (go_simp; done) | (go_simp; rfl)); intro gb276 hg w67 hbox hb; have n0_ := Aside0.mk (blk_below (g := gb275) (o := .cells #[.int .i64 a0_0, .int .i64 a0_1, .int .i64 a0_2, .int .i64 a0_3] 56 (0, 0)) tq_3 hb); have n1_ := Aside0.mk (below_step tq_14 hb); have n2_ := Aside0.mk (hbox); have n3_ := Aside0.mk ((by rw [hg]; exact (below_size tq_14) : w.heap.size ≤ gb276)); have n4_ := Aside0.mk ((by rw [hg]; exact (below_size tq_14) : w.heap.size ≤ gb276)); have n5_ := Aside0.mk ((by rw [hg]; exact Nat.ne_of_lt (blk_lt (g := gb275) (o := .cells #[.int .i64 a0_0, .int .i64 a0_1, .int .i64 a0_2, .int .i64 a0_3] 56 (0, 0)) tq_3) : gb275 ≠ gb276)); have n6_ := Aside0.mk ((by rw [hg]; exact Nat.ne_of_gt (blk_lt (g := gb275) (o := .cells #[.int .i64 a0_0, .int .i64 a0_1, .int .i64 a0_2, .int .i64 a0_3] 56 (0, 0)) tq_3) : gb276 ≠ gb275)); clear BK275; clear HB; have BK275 := n0_; have HB := n1_; have BK276 := n2_; have GW276 := n3_; have GE276 := n4_; have NB275_276 := n5_; have NB276_275 := n6_; clear n0_ n1_ n2_ n3_ n4_ n5_ n6_; clear hb hbox hg; have hnb68 := NB276_275.out; have hnc68 := NB275_276.out; have hcz69_0 : w67.cell? ⟨gb276, 0, none⟩ = some (.slice A1_0 l1_0.length c1_0) := (blk_cell BK276.out 0).trans rfl; have hfz69_0 := blk_frozen BK276.out 0) | ((with_reducible refine gate_callee (f := 24) rfl ?_); refine goesL_ (some 11) rfl rfl Tryd.func24 (by kernel_rfl) rfl #[.agg #[.slice A1_0 l1_0.length c1_0], .int .i64 1048576] rfl tq_1 ?_; (with_reducible refine (laws_szView.calls k _ _ l1_0 1048576 t277 _ ?side1 ?side2 A3.out).mono ?_); (case side1 => exact tq_4); (case side2 => exact HC1_0.out); rintro e w70 ⟨rfl, hb⟩; refine ⟨_, rfl, ?_⟩; have n0_ := Aside0.mk (blk_below (g := gb275) (o := .cells #[.int .i64 a0_0, .int .i64 a0_1, .int .i64 a0_2, .int .i64 a0_3] 56 (0, 0)) tq_3 hb); have n1_ := Aside0.mk (blk_below (g := gb276) (o := .cells #[.slice A1_0 l1_0.length c1_0] 32 (0, 0)) tq_7 hb); have n2_ := Aside0.mk (below_step tq_2 hb); clear BK275; clear BK276; clear HB; have BK275 := n0_; have BK276 := n1_; have HB := n2_; clear n0_ n1_ n2_; (try clear hb); (try clear hb2); (try clear hk); (try clear hi)))
    have n0_ := Aside0.mk (blk_drew BK275.out)
    have n1_ := Aside0.mk (blk_drew BK276.out)
    have n2_ := Aside0.mk (below_drew1 HB.out)
    clear BK275
    clear BK276
    clear HB
    have BK275 := n0_
    have BK276 := n1_
    have HB := n2_
    clear n0_ n1_ n2_
    refine start_ (n := 6) (S := fun w' => w'.cell? ⟨gb275, 0, none⟩ = some (.int .i64 a0_0) ∧ w'.cell? ⟨gb275, 1, none⟩ = some (.int .i64 a0_1) ∧ w'.cell? ⟨gb275, 2, none⟩ = some (.int .i64 a0_2) ∧ w'.cell? ⟨gb275, 3, none⟩ = some (.int .i64 a0_3) ∧ w'.cell? ⟨gb276, 0, none⟩ = some (.slice A1_0 l1_0.length c1_0)) (ds := []) bq_68 (by kernel_rfl) rfl rfl ⟨(blk_cell BK275.out 0).trans rfl, (blk_cell BK275.out 1).trans rfl, (blk_cell BK275.out 2).trans rfl, (blk_cell BK275.out 3).trans rfl, (blk_cell BK276.out 0).trans rfl⟩ (fun hHeld => ?_)
    generalize w70.drew = w71 at BK275 BK276 HB hHeld ⊢
    refine take_ (i := 0) (N := some 14) (v := ?_) (a' := ?_) bq_101 rfl rfl (by kernel_rfl) (fun _ _ _ h => h) (Or.inl ⟨by rfl, ?_⟩) hHeld ?_ ?_
    rotate_left
    ·rintro w' ⟨s0, s1, s2, s3, s4⟩
     go_simp
     with_reducible rfl
    rotate_left
    ·simp only [Act.put, List.setIfInBounds_toArray, List.set_cons_zero, List.set_cons_succ, i64_w, i32_w]
     rfl
    refine take_ (i := 2) (N := some 16) (v := ?_) (a' := ?_) bq_69 rfl rfl (by kernel_rfl) (fun _ _ _ h => h) (Or.inl ⟨by rfl, ?_⟩) hHeld ?_ ?_
    rotate_left
    ·rintro w' ⟨s0, s1, s2, s3, s4⟩
     go_simp
     with_reducible rfl
    rotate_left
    ·simp only [Act.put, List.setIfInBounds_toArray, List.set_cons_zero, List.set_cons_succ, i64_w, i32_w]
     rfl
    refine one_ (i := 1) (N := some 15) bq_102 rfl rfl (by kernel_rfl) (by decide) (fun K hK => ?_)
    refine goes_ Tryd.func38 (by kernel_rfl) rfl #[.agg #[.int .i64 a0_0, .int .i64 a0_1, .int .i64 a0_2, .int .i64 a0_3]] (by rfl) rfl rfl tq_1 ?_
    with_reducible refine (laws_toGeo.calls a0_0 a0_1 a0_2 a0_3 t278 t279 t280 t281 _ A10.out).mono ?_
    rintro e w72 ⟨rfl, hb⟩
    refine ⟨_, rfl, ?_⟩
    have n0_ := Aside0.mk (blk_below (g := gb275) (o := .cells #[.int .i64 a0_0, .int .i64 a0_1, .int .i64 a0_2, .int .i64 a0_3] 56 (0, 0)) tq_3 hb)
    have n1_ := Aside0.mk (blk_below (g := gb276) (o := .cells #[.slice A1_0 l1_0.length c1_0] 32 (0, 0)) tq_7 hb)
    have n2_ := Aside0.mk (below_step tq_2 hb)
    clear BK275
    clear BK276
    clear HB
    have BK275 := n0_
    have BK276 := n1_
    have HB := n2_
    clear n0_ n1_ n2_
    (try clear hb)
    (try clear hb2)
    (try clear hk)
    (try clear hi)
    refine hK.out _ _ ⟨(blk_cell BK275.out 0).trans rfl, (blk_cell BK275.out 1).trans rfl, (blk_cell BK275.out 2).trans rfl, (blk_cell BK275.out 3).trans rfl, (blk_cell BK276.out 0).trans rfl⟩ (fun hHeld => ?_)
    clear hK K
    refine norm_ (a' := ?_) ?_ ?_
    rotate_left
    ·show Act.put _ (some 15) _ = _
     simp only [Act.put, List.setIfInBounds_toArray, List.set_cons_zero, List.set_cons_succ, i64_w, i32_w]
     rfl
    refine one_ (i := 3) (N := some 17) bq_70 rfl rfl (by kernel_rfl) (by decide) (fun K hK => ?_)
    refine goes_ Tryd.func26 (by kernel_rfl) rfl #[.agg #[.slice A1_0 l1_0.length c1_0]] (by rfl) rfl rfl tq_1 ?_
    with_reducible refine (laws_toView.calls k _ _ l1_0 t282 _ ?side1 ?side2 A11.out).mono ?_
    (case side1 => exact tq_4)
    (case side2 => exact HC1_0.out)
    rintro e w73 ⟨v283, rfl, ho0, hb⟩
    refine ⟨_, rfl, ?_⟩
    have n0_ := Aside0.mk (Kd.R_lower ho0 (below_size tq_2))
    have n1_ := Aside0.mk (blk_below (g := gb275) (o := .cells #[.int .i64 a0_0, .int .i64 a0_1, .int .i64 a0_2, .int .i64 a0_3] 56 (0, 0)) tq_3 hb)
    have n2_ := Aside0.mk (blk_below (g := gb276) (o := .cells #[.slice A1_0 l1_0.length c1_0] 32 (0, 0)) tq_7 hb)
    have n3_ := Aside0.mk (below_step tq_2 hb)
    clear BK275
    clear BK276
    clear HB
    have HO284 := n0_
    have BK275 := n1_
    have BK276 := n2_
    have HB := n3_
    clear n0_ n1_ n2_ n3_
    (try clear hb)
    (try clear hb2)
    (try clear hk)
    (try clear hi)
    (try clear ho0)
    obtain ⟨Ao74, co74, eo74⟩ := Kd.R_slice HO284.out
    (first | subst eo74 | (injection eo74 with f1_ f2_ f3_; have f4_ := f1_.symm; have f5_ := f3_.symm; clear f1_ f2_ f3_; subst f4_; subst f5_))
    refine hK.out _ _ ⟨(blk_cell BK275.out 0).trans rfl, (blk_cell BK275.out 1).trans rfl, (blk_cell BK275.out 2).trans rfl, (blk_cell BK275.out 3).trans rfl, (blk_cell BK276.out 0).trans rfl⟩ (fun hHeld => ?_)
    clear hK K
    refine norm_ (a' := ?_) ?_ ?_
    rotate_left
    ·show Act.put _ (some 17) _ = _
     simp only [Act.put, List.setIfInBounds_toArray, List.set_cons_zero, List.set_cons_succ, i64_w, i32_w]
     rfl
    refine one_ (i := 4) (N := some 18) bq_71 rfl rfl (by kernel_rfl) (by decide) (fun K hK => ?_)
    refine goes_ Tryd.func37 (by kernel_rfl) rfl #[.agg #[.int .i64 t278, .int .i64 t279, .int .i64 t280, .int .i64 t281], .agg #[.slice Ao74 t282.length co74]] (by rfl) rfl rfl tq_1 ?_
    with_reducible refine (spec_ViewOk.calls k t278 t279 t280 t281 _ _ t282 t285 _ ?side1 ?side2 A12.out).mono ?_
    (case side1 => exact tq_54)
    (case side2 => exact (Kd.R_reads' HO284.out).2.1)
    rintro e w75 ⟨rfl, hb⟩
    refine ⟨_, rfl, ?_⟩
    have n0_ := Aside0.mk (Kd.R_below tq_11 hb)
    have n1_ := Aside0.mk (blk_below (g := gb275) (o := .cells #[.int .i64 a0_0, .int .i64 a0_1, .int .i64 a0_2, .int .i64 a0_3] 56 (0, 0)) tq_3 hb)
    have n2_ := Aside0.mk (blk_below (g := gb276) (o := .cells #[.slice A1_0 l1_0.length c1_0] 32 (0, 0)) tq_7 hb)
    have n3_ := Aside0.mk (below_step tq_2 hb)
    clear HO284
    clear BK275
    clear BK276
    clear HB
    have HO284 := n0_
    have BK275 := n1_
    have BK276 := n2_
    have HB := n3_
    clear n0_ n1_ n2_ n3_
    (try clear hb)
    (try clear hb2)
    (try clear hk)
    (try clear hi)
    refine hK.out _ _ ⟨(blk_cell BK275.out 0).trans rfl, (blk_cell BK275.out 1).trans rfl, (blk_cell BK275.out 2).trans rfl, (blk_cell BK275.out 3).trans rfl, (blk_cell BK276.out 0).trans rfl⟩ (fun hHeld => ?_)
    clear hK K
    refine norm_ (a' := ?_) ?_ ?_
    rotate_left
    ·show Act.put _ (some 18) _ = _
     simp only [Act.put, List.setIfInBounds_toArray, List.set_cons_zero, List.set_cons_succ, i64_w, i32_w]
     rfl
    refine yq_ (i := 5) (N := some 6) bq_72 (by kernel_rfl) ?_
    refine done_ (by kernel_rfl) ?_
    have hcz76_0 : w75.cell? ⟨gb276, 0, none⟩ = some (.slice A1_0 l1_0.length c1_0) := (blk_cell BK276.out 0).trans rfl
    have hfz76_0 := blk_frozen BK276.out 0
    try go_wp2_with (first | ((with_reducible refine gate_callee (f := 26) rfl ?_); refine goesL_ (some 20) rfl rfl Tryd.func26 (by kernel_rfl) rfl #[.agg #[.slice A1_0 l1_0.length c1_0]] rfl tq_1 ?_; (with_reducible refine (laws_toView.calls k _ _ l1_0 t286 _ ?side1 ?side2 A13.out).mono ?_); (case side1 => exact tq_4); (case side2 => exact HC1_0.out); rintro e w77 ⟨v287, rfl, ho0, hb⟩; refine ⟨_, rfl, ?_⟩; have n0_ := Aside0.mk (Kd.R_elder' tq_11 (Kd.R_base ho0) hb); have n1_ := Aside0.mk (Kd.R_lower (Kd.R_new' ho0 (Kd.R_lt tq_11)) (below_size tq_2)); have n2_ := Aside0.mk (blk_below (g := gb275) (o := .cells #[.int .i64 a0_0, .int .i64 a0_1, .int .i64 a0_2, .int .i64 a0_3] 56 (0, 0)) tq_3 hb); have n3_ := Aside0.mk (blk_below (g := gb276) (o := .cells #[.slice A1_0 l1_0.length c1_0] 32 (0, 0)) tq_7 hb); have n4_ := Aside0.mk (below_step tq_2 hb); clear HO284; clear BK275; clear BK276; clear HB; have HO284 := n0_; have HO288 := n1_; have BK275 := n2_; have BK276 := n3_; have HB := n4_; clear n0_ n1_ n2_ n3_ n4_; (try clear hb); (try clear hb2); (try clear hk); (try clear hi); (try clear ho0)) | ((with_reducible refine gate_dst (N := 7) rfl ?_); refine box_event ?hg (N := 7) ?hd (cs := #[.slice none 0 0]) (t := 37) ?hr ?_; (case hd => rfl); (case hg => rfl); (case hr => first | (go_simp; done) | (go_simp; rfl)); intro gb289 hg w78 hbox hb; have n0_ := Aside0.mk (Kd.R_below tq_11 hb); have n1_ := Aside0.mk (Kd.R_below tq_19 hb); have n2_ := Aside0.mk (blk_below (g := gb275) (o := .cells #[.int .i64 a0_0, .int .i64 a0_1, .int .i64 a0_2, .int .i64 a0_3] 56 (0, 0)) tq_3 hb); have n3_ := Aside0.mk (blk_below (g := gb276) (o := .cells #[.slice A1_0 l1_0.length c1_0] 32 (0, 0)) tq_7 hb); have n4_ := Aside0.mk (below_step tq_2 hb); have n5_ := Aside0.mk (hbox); have n6_ := Aside0.mk ((by rw [hg]; exact (below_size tq_2) : w.heap.size ≤ gb289)); have n7_ := Aside0.mk ((by rw [hg]; exact (below_size tq_2) : w.heap.size ≤ gb289)); have n8_ := Aside0.mk ((by rw [hg]; exact Nat.ne_of_lt (blk_lt (g := gb275) (o := .cells #[.int .i64 a0_0, .int .i64 a0_1, .int .i64 a0_2, .int .i64 a0_3] 56 (0, 0)) tq_3) : gb275 ≠ gb289)); have n9_ := Aside0.mk ((by rw [hg]; exact Nat.ne_of_gt (blk_lt (g := gb275) (o := .cells #[.int .i64 a0_0, .int .i64 a0_1, .int .i64 a0_2, .int .i64 a0_3] 56 (0, 0)) tq_3) : gb289 ≠ gb275)); have n10_ := Aside0.mk ((by rw [hg]; exact Nat.ne_of_lt (blk_lt (g := gb276) (o := .cells #[.slice A1_0 l1_0.length c1_0] 32 (0, 0)) tq_7) : gb276 ≠ gb289)); have n11_ := Aside0.mk ((by rw [hg]; exact Nat.ne_of_gt (blk_lt (g := gb276) (o := .cells #[.slice A1_0 l1_0.length c1_0] 32 (0, 0)) tq_7) : gb289 ≠ gb276)); clear HO284; clear HO288; clear BK275; clear BK276; clear HB; have HO284 := n0_; have HO288 := n1_; have BK275 := n2_; have BK276 := n3_; have HB := n4_; have BK289 := n5_; have GW289 := n6_; have GE289 := n7_; have NB275_289 := n8_; have NB289_275 := n9_; have NB276_289 := n10_; have NB289_276 := n11_; clear n0_ n1_ n2_ n3_ n4_ n5_ n6_ n7_ n8_ n9_ n10_ n11_; clear hb hbox hg; obtain ⟨Ao79, co79, eo79⟩ := Kd.R_slice HO288.out; subst eo79; have hnb80 := NB289_275.out; have hnc80 := NB275_289.out; have hnb81 := NB289_276.out; have hnc81 := NB276_289.out; have hcz82_0 : w78.cell? ⟨gb289, 0, none⟩ = some (.slice none 0 0) := (blk_cell BK289.out 0).trans rfl; have hfz82_0 := blk_frozen BK289.out 0))
    have n0_ : Aside0 (Kd.R k75 75 (w78.setCell ⟨gb289, 0, none⟩ (.slice Ao79 t286.length co79)) w.heap.size (fun k_ => some k_ ≠ (.slice Ao79 t286.length co79 : Value).ownBlock) (.slice Ao74 t282.length co74) t282) := ⟨by (with_reducible repeat (first | apply Kd.R_alloc | apply Kd.R_drewN | apply Kd.R_drew)); exact Kd.R_mono (Kd.R_far (p := ⟨gb289, 0, none⟩) (Kd.R_types HO284.out BK289.out (by decide)) (fun _ hk => hk.2) (.slice Ao79 t286.length co79)) (fun _ hk => hk.1.2)⟩
    have n1_ : Aside0 (Kd.R k75 75 (w78.setCell ⟨gb289, 0, none⟩ (.slice Ao79 t286.length co79)) w.heap.size (fun k_ => some k_ ≠ (.slice Ao74 t282.length co74 : Value).ownBlock) (.slice Ao79 t286.length co79) t286) := ⟨by (with_reducible repeat (first | apply Kd.R_alloc | apply Kd.R_drewN | apply Kd.R_drew)); exact Kd.R_mono (Kd.R_far (p := ⟨gb289, 0, none⟩) (Kd.R_types HO288.out BK289.out (by decide)) (fun _ hk => hk.2) (.slice Ao79 t286.length co79)) (fun _ hk => hk.1.2)⟩
    have n2_ : Aside0 ((w78.setCell ⟨gb289, 0, none⟩ (.slice Ao79 t286.length co79)).heap[gb275]? = some (.cells #[.int .i64 a0_0, .int .i64 a0_1, .int .i64 a0_2, .int .i64 a0_3] 56 (0, 0))) := ⟨by (with_reducible repeat (first | refine blk_drewN ?_ _ | refine blk_drew ?_ | refine blk_alloc ?_ _)); refine blk_far ?_ NB275_289.out _; (with_reducible repeat (first | refine blk_drewN ?_ _ | refine blk_drew ?_ | refine blk_alloc ?_ _)); exact BK275.out⟩
    have n3_ : Aside0 ((w78.setCell ⟨gb289, 0, none⟩ (.slice Ao79 t286.length co79)).heap[gb276]? = some (.cells #[.slice A1_0 l1_0.length c1_0] 32 (0, 0))) := ⟨by (with_reducible repeat (first | refine blk_drewN ?_ _ | refine blk_drew ?_ | refine blk_alloc ?_ _)); refine blk_far ?_ NB276_289.out _; (with_reducible repeat (first | refine blk_drewN ?_ _ | refine blk_drew ?_ | refine blk_alloc ?_ _)); exact BK276.out⟩
    have n4_ : Aside0 ((w78.setCell ⟨gb289, 0, none⟩ (.slice Ao79 t286.length co79)).heap[gb289]? = some (.cells #[.slice Ao79 t286.length co79] 37 (0, 0))) := ⟨by (with_reducible repeat (first | refine blk_drewN ?_ _ | refine blk_drew ?_ | refine blk_alloc ?_ _)); refine blk_put (cs := #[.slice none 0 0]) ?_ 0 _ rfl; (with_reducible repeat (first | refine blk_drewN ?_ _ | refine blk_drew ?_ | refine blk_alloc ?_ _)); exact BK289.out⟩
    have n5_ : Aside0 (Below w.heap.size w (w78.setCell ⟨gb289, 0, none⟩ (.slice Ao79 t286.length co79))) := ⟨by repeat (first | (with_reducible first | exact HB.out | apply below_alloc | apply pw_below_drewN | apply below_drew1 | refine below_set ?_ GE275.out | refine below_set ?_ GE276.out | refine below_set ?_ GE289.out) | exact HB.out)⟩
    (try clear HO284)
    (try clear HO288)
    (try clear BK275)
    (try clear BK276)
    (try clear BK289)
    (try clear HB)
    generalize (w78.setCell ⟨gb289, 0, none⟩ (.slice Ao79 t286.length co79)) = w83 at n0_ n1_ n2_ n3_ n4_ n5_ ⊢
    have HO284 := n0_
    have HO288 := n1_
    have BK275 := n2_
    have BK276 := n3_
    have BK289 := n4_
    have HB := n5_
    clear n0_ n1_ n2_ n3_ n4_ n5_
    have n0_ := Aside0.mk (Kd.R_drew HO284.out)
    have n1_ := Aside0.mk (Kd.R_drew HO288.out)
    have n2_ := Aside0.mk (blk_drew BK275.out)
    have n3_ := Aside0.mk (blk_drew BK276.out)
    have n4_ := Aside0.mk (blk_drew BK289.out)
    have n5_ := Aside0.mk (below_drew1 HB.out)
    clear HO284
    clear HO288
    clear BK275
    clear BK276
    clear BK289
    clear HB
    have HO284 := n0_
    have HO288 := n1_
    have BK275 := n2_
    have BK276 := n3_
    have BK289 := n4_
    have HB := n5_
    clear n0_ n1_ n2_ n3_ n4_ n5_
    refine start_ (n := 5) (S := fun w' => w'.cell? ⟨gb275, 0, none⟩ = some (.int .i64 a0_0) ∧ w'.cell? ⟨gb275, 1, none⟩ = some (.int .i64 a0_1) ∧ w'.cell? ⟨gb275, 2, none⟩ = some (.int .i64 a0_2) ∧ w'.cell? ⟨gb275, 3, none⟩ = some (.int .i64 a0_3) ∧ w'.cell? ⟨gb289, 0, none⟩ = some (.slice Ao79 t286.length co79)) (ds := []) bq_62 (by kernel_rfl) rfl rfl ⟨(blk_cell BK275.out 0).trans rfl, (blk_cell BK275.out 1).trans rfl, (blk_cell BK275.out 2).trans rfl, (blk_cell BK275.out 3).trans rfl, (blk_cell BK289.out 0).trans rfl⟩ (fun hHeld => ?_)
    generalize w83.drew = w84 at HO284 HO288 BK275 BK276 BK289 HB hHeld ⊢
    refine take_ (i := 0) (N := some 21) (v := ?_) (a' := ?_) bq_63 rfl rfl (by kernel_rfl) (fun _ _ _ h => h) (Or.inl ⟨by rfl, ?_⟩) hHeld ?_ ?_
    rotate_left
    ·rintro w' ⟨s0, s1, s2, s3, s4⟩
     go_simp
     with_reducible rfl
    rotate_left
    ·simp only [Act.put, List.setIfInBounds_toArray, List.set_cons_zero, List.set_cons_succ, i64_w, i32_w]
     rfl
    refine take_ (i := 2) (N := some 23) (v := ?_) (a' := ?_) bq_103 rfl rfl (by kernel_rfl) (fun _ _ _ h => h) (Or.inl ⟨by rfl, ?_⟩) hHeld ?_ ?_
    rotate_left
    ·rintro w' ⟨s0, s1, s2, s3, s4⟩
     go_simp
     with_reducible rfl
    rotate_left
    ·simp only [Act.put, List.setIfInBounds_toArray, List.set_cons_zero, List.set_cons_succ, i64_w, i32_w]
     rfl
    refine one_ (i := 1) (N := some 22) bq_64 rfl rfl (by kernel_rfl) (by decide) (fun K hK => ?_)
    refine goes_ Tryd.func38 (by kernel_rfl) rfl #[.agg #[.int .i64 a0_0, .int .i64 a0_1, .int .i64 a0_2, .int .i64 a0_3]] (by rfl) rfl rfl tq_1 ?_
    with_reducible refine (laws_toGeo.calls a0_0 a0_1 a0_2 a0_3 t290 t291 t292 t293 _ A14.out).mono ?_
    rintro e w85 ⟨rfl, hb⟩
    refine ⟨_, rfl, ?_⟩
    have n0_ := Aside0.mk (Kd.R_below tq_11 hb)
    have n1_ := Aside0.mk (Kd.R_below tq_19 hb)
    have n2_ := Aside0.mk (blk_below (g := gb275) (o := .cells #[.int .i64 a0_0, .int .i64 a0_1, .int .i64 a0_2, .int .i64 a0_3] 56 (0, 0)) tq_3 hb)
    have n3_ := Aside0.mk (blk_below (g := gb276) (o := .cells #[.slice A1_0 l1_0.length c1_0] 32 (0, 0)) tq_7 hb)
    have n4_ := Aside0.mk (blk_below (g := gb289) (o := .cells #[.slice Ao79 t286.length co79] 37 (0, 0)) tq_26 hb)
    have n5_ := Aside0.mk (below_step tq_9 hb)
    clear HO284
    clear HO288
    clear BK275
    clear BK276
    clear BK289
    clear HB
    have HO284 := n0_
    have HO288 := n1_
    have BK275 := n2_
    have BK276 := n3_
    have BK289 := n4_
    have HB := n5_
    clear n0_ n1_ n2_ n3_ n4_ n5_
    (try clear hb)
    (try clear hb2)
    (try clear hk)
    (try clear hi)
    refine hK.out _ _ ⟨(blk_cell BK275.out 0).trans rfl, (blk_cell BK275.out 1).trans rfl, (blk_cell BK275.out 2).trans rfl, (blk_cell BK275.out 3).trans rfl, (blk_cell BK289.out 0).trans rfl⟩ (fun hHeld => ?_)
    clear hK K
    refine norm_ (a' := ?_) ?_ ?_
    rotate_left
    ·show Act.put _ (some 22) _ = _
     simp only [Act.put, List.setIfInBounds_toArray, List.set_cons_zero, List.set_cons_succ, i64_w, i32_w]
     rfl
    refine one_ (i := 3) (N := some 24) bq_65 rfl rfl (by kernel_rfl) (by decide) (fun K hK => ?_)
    refine goes_ Tryd.func39 (by kernel_rfl) rfl #[.agg #[.int .i64 t290, .int .i64 t291, .int .i64 t292, .int .i64 t293], .agg #[.slice Ao79 t286.length co79]] (by rfl) rfl rfl tq_1 ?_
    with_reducible refine (impl_ViewOk.calls k t290 t291 t292 t293 _ _ t286 t294 _ ?side1 ?side2 ?side3 A15.out).mono ?_
    (case side1 => exact DoorOk.below HD.out tq_9)
    (case side2 => exact tq_35)
    (case side3 => exact (Kd.R_reads' HO288.out).2.1)
    rintro e w86 ⟨rfl, hb⟩
    refine ⟨_, rfl, ?_⟩
    have n0_ := Aside0.mk (Kd.R_below tq_11 hb)
    have n1_ := Aside0.mk (Kd.R_below tq_19 hb)
    have n2_ := Aside0.mk (blk_below (g := gb275) (o := .cells #[.int .i64 a0_0, .int .i64 a0_1, .int .i64 a0_2, .int .i64 a0_3] 56 (0, 0)) tq_3 hb)
    have n3_ := Aside0.mk (blk_below (g := gb276) (o := .cells #[.slice A1_0 l1_0.length c1_0] 32 (0, 0)) tq_7 hb)
    have n4_ := Aside0.mk (blk_below (g := gb289) (o := .cells #[.slice Ao79 t286.length co79] 37 (0, 0)) tq_26 hb)
    have n5_ := Aside0.mk (below_step tq_9 hb)
    clear HO284
    clear HO288
    clear BK275
    clear BK276
    clear BK289
    clear HB
    have HO284 := n0_
    have HO288 := n1_
    have BK275 := n2_
    have BK276 := n3_
    have BK289 := n4_
    have HB := n5_
    clear n0_ n1_ n2_ n3_ n4_ n5_
    (try clear hb)
    (try clear hb2)
    (try clear hk)
    (try clear hi)
    refine hK.out _ _ ⟨(blk_cell BK275.out 0).trans rfl, (blk_cell BK275.out 1).trans rfl, (blk_cell BK275.out 2).trans rfl, (blk_cell BK275.out 3).trans rfl, (blk_cell BK289.out 0).trans rfl⟩ (fun hHeld => ?_)
    clear hK K
    refine norm_ (a' := ?_) ?_ ?_
    rotate_left
    ·show Act.put _ (some 24) _ = _
     simp only [Act.put, List.setIfInBounds_toArray, List.set_cons_zero, List.set_cons_succ, i64_w, i32_w]
     rfl
    refine yq_ (i := 4) (N := some 8) bq_66 (by kernel_rfl) ?_
    refine done_ (by kernel_rfl) ?_
    try go_wp2
    have n0_ := Aside0.mk (Kd.R_drew HO284.out)
    have n1_ := Aside0.mk (Kd.R_drew HO288.out)
    have n2_ := Aside0.mk (blk_drew BK275.out)
    have n3_ := Aside0.mk (blk_drew BK276.out)
    have n4_ := Aside0.mk (blk_drew BK289.out)
    have n5_ := Aside0.mk (below_drew1 HB.out)
    clear HO284
    clear HO288
    clear BK275
    clear BK276
    clear BK289
    clear HB
    have HO284 := n0_
    have HO288 := n1_
    have BK275 := n2_
    have BK276 := n3_
    have BK289 := n4_
    have HB := n5_
    clear n0_ n1_ n2_ n3_ n4_ n5_
    refine start_ (n := 5) (S := fun w' => w'.cell? ⟨gb289, 0, none⟩ = some (.slice Ao79 t286.length co79) ∧ w'.cell? ⟨gb276, 0, none⟩ = some (.slice A1_0 l1_0.length c1_0)) (ds := []) bq_62 (by kernel_rfl) rfl rfl ⟨(blk_cell BK289.out 0).trans rfl, (blk_cell BK276.out 0).trans rfl⟩ (fun hHeld => ?_)
    generalize w86.drew = w87 at HO284 HO288 BK275 BK276 BK289 HB hHeld ⊢
    refine take_ (i := 0) (N := some 28) (v := ?_) (a' := ?_) bq_63 rfl rfl (by kernel_rfl) (fun _ _ _ h => h) (Or.inl ⟨by rfl, ?_⟩) hHeld ?_ ?_
    rotate_left
    ·rintro w' ⟨s0, s1⟩
     go_simp
     with_reducible rfl
    rotate_left
    ·simp only [Act.put, List.setIfInBounds_toArray, List.set_cons_zero, List.set_cons_succ, i64_w, i32_w]
     rfl
    refine take_ (i := 1) (N := some 29) (v := ?_) (a' := ?_) #[true, true, false, false, false] rfl rfl (by kernel_rfl) (fun _ _ _ h => h) (Or.inl ⟨by rfl, ?_⟩) hHeld ?_ ?_
    rotate_left
    ·rintro w' ⟨s0, s1⟩
     go_simp
     with_reducible rfl
    rotate_left
    ·simp only [Act.put, List.setIfInBounds_toArray, List.set_cons_zero, List.set_cons_succ, i64_w, i32_w]
     rfl
    refine one_ (i := 2) (N := some 30) bq_64 rfl rfl (by kernel_rfl) (by decide) (fun K hK => ?_)
    refine goes_ Tryd.func26 (by kernel_rfl) rfl #[.agg #[.slice A1_0 l1_0.length c1_0]] (by rfl) rfl rfl tq_1 ?_
    with_reducible refine (laws_toView.calls k _ _ l1_0 t295 _ ?side1 ?side2 A38.out).mono ?_
    (case side1 => exact tq_4)
    (case side2 => exact HC1_0.out)
    rintro e w88 ⟨v296, rfl, ho0, hb⟩
    refine ⟨_, rfl, ?_⟩
    have n0_ := Aside0.mk (Kd.R_elder' tq_11 (Kd.R_base ho0) hb)
    have n1_ := Aside0.mk (Kd.R_elder' tq_19 (Kd.R_base ho0) hb)
    have n2_ := Aside0.mk (Kd.R_lower (Kd.R_new' (Kd.R_new' ho0 (Kd.R_lt tq_11)) (Kd.R_lt tq_19)) (below_size tq_9))
    have n3_ := Aside0.mk (blk_below (g := gb275) (o := .cells #[.int .i64 a0_0, .int .i64 a0_1, .int .i64 a0_2, .int .i64 a0_3] 56 (0, 0)) tq_3 hb)
    have n4_ := Aside0.mk (blk_below (g := gb276) (o := .cells #[.slice A1_0 l1_0.length c1_0] 32 (0, 0)) tq_7 hb)
    have n5_ := Aside0.mk (blk_below (g := gb289) (o := .cells #[.slice Ao79 t286.length co79] 37 (0, 0)) tq_26 hb)
    have n6_ := Aside0.mk (below_step tq_9 hb)
    clear HO284
    clear HO288
    clear BK275
    clear BK276
    clear BK289
    clear HB
    have HO284 := n0_
    have HO288 := n1_
    have HO297 := n2_
    have BK275 := n3_
    have BK276 := n4_
    have BK289 := n5_
    have HB := n6_
    clear n0_ n1_ n2_ n3_ n4_ n5_ n6_
    (try clear hb)
    (try clear hb2)
    (try clear hk)
    (try clear hi)
    (try clear ho0)
    obtain ⟨Ao89, co89, eo89⟩ := Kd.R_slice HO297.out
    (first | subst eo89 | (injection eo89 with f1_ f2_ f3_; have f4_ := f1_.symm; have f5_ := f3_.symm; clear f1_ f2_ f3_; subst f4_; subst f5_))
    refine hK.out _ _ ⟨(blk_cell BK289.out 0).trans rfl, (blk_cell BK276.out 0).trans rfl⟩ (fun hHeld => ?_)
    clear hK K
    refine norm_ (a' := ?_) ?_ ?_
    rotate_left
    ·show Act.put _ (some 30) _ = _
     simp only [Act.put, List.setIfInBounds_toArray, List.set_cons_zero, List.set_cons_succ, i64_w, i32_w]
     rfl
    refine one_ (i := 3) (N := some 31) bq_65 rfl rfl (by kernel_rfl) (by decide) (fun K hK => ?_)
    refine goes_ Tryd.func28 (by kernel_rfl) rfl #[.agg #[.slice Ao79 t286.length co79], .agg #[.slice Ao89 t295.length co89]] (by rfl) rfl rfl tq_1 ?_
    with_reducible refine (laws_eqView.calls k _ _ t286 _ _ t295 false _ ?side1 ?side2 ?side3 ?side4 A39.out).mono ?_
    (case side1 => exact tq_35)
    (case side2 => exact (Kd.R_reads' HO288.out).2.1)
    (case side3 => exact tq_63)
    (case side4 => exact (Kd.R_reads' HO297.out).2.1)
    rintro e w90 ⟨rfl, hb⟩
    refine ⟨_, rfl, ?_⟩
    have n0_ := Aside0.mk (Kd.R_below tq_11 hb)
    have n1_ := Aside0.mk (Kd.R_below tq_19 hb)
    have n2_ := Aside0.mk (Kd.R_below (by (with_reducible repeat (first | apply Kd.R_alloc | apply Kd.R_drewN | apply Kd.R_drew)); exact HO297.out) hb)
    have n3_ := Aside0.mk (blk_below (g := gb275) (o := .cells #[.int .i64 a0_0, .int .i64 a0_1, .int .i64 a0_2, .int .i64 a0_3] 56 (0, 0)) tq_3 hb)
    have n4_ := Aside0.mk (blk_below (g := gb276) (o := .cells #[.slice A1_0 l1_0.length c1_0] 32 (0, 0)) tq_7 hb)
    have n5_ := Aside0.mk (blk_below (g := gb289) (o := .cells #[.slice Ao79 t286.length co79] 37 (0, 0)) tq_26 hb)
    have n6_ := Aside0.mk (below_step tq_9 hb)
    clear HO284
    clear HO288
    clear HO297
    clear BK275
    clear BK276
    clear BK289
    clear HB
    have HO284 := n0_
    have HO288 := n1_
    have HO297 := n2_
    have BK275 := n3_
    have BK276 := n4_
    have BK289 := n5_
    have HB := n6_
    clear n0_ n1_ n2_ n3_ n4_ n5_ n6_
    (try clear hb)
    (try clear hb2)
    (try clear hk)
    (try clear hi)
    refine hK.out _ _ ⟨(blk_cell BK289.out 0).trans rfl, (blk_cell BK276.out 0).trans rfl⟩ (fun hHeld => ?_)
    clear hK K
    refine norm_ (a' := ?_) ?_ ?_
    rotate_left
    ·show Act.put _ (some 31) _ = _
     simp only [Act.put, List.setIfInBounds_toArray, List.set_cons_zero, List.set_cons_succ, i64_w, i32_w]
     rfl
    refine yq_ (i := 4) (N := some 32) bq_66 (by kernel_rfl) ?_
    refine done_ (by kernel_rfl) ?_
    try go_wp2
    go_ret
    exact ⟨by first | rfl | (simp [errW_none, errW_some] <;> rfl) | (simp [*, errW_none, errW_some] <;> rfl), by repeat (first | (with_reducible first | exact HB.out | apply below_alloc | apply pw_below_drewN | apply below_drew1 | refine below_set ?_ GE275.out | refine below_set ?_ GE276.out | refine below_set ?_ GE289.out) | exact HB.out)⟩

end Go.Proofs.YtabgpbmaoelohaaDoor.PFnExactViewOk
