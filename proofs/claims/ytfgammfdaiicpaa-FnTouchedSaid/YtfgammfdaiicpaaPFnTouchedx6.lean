/- Contracts of Go functions, written by a program of ours over the print of the kit: each says that the call returns what the Lean function beside it computes. Conditions: as each theorem states them. -/
import Derived.Test.YtfgammfdaiicpaaPFnTouchedx0
import Derived.Test.YtfgammfdaiicpaaPFnTouchedx1
namespace Go.Proofs.Ytfgammfdaiicpaa.PFnTouched
open Go.RowKit Go.Proofs.YtfgammfdaiicpaaW.PrintWords Go.Proofs.YtfgammfdaiicpaaW.PrintLast Go.Proofs.YtfgammfdaiicpaaW.PrintMore
attribute [local go_sem] max2_int min2_int max_two min_two max_three min_three max_four min_four   -- for this text's walks alone
set_option linter.unusedVariables false
set_option linter.unusedSimpArgs false

/-! ### spec_TouchedBy: function 35 -/
mutual
def spec_TouchedBy.j1 : Nat → Int → List Int → Int → Int → Option (List Int)
  | 0, _, _, _, _ => none
  | k + 1, x0, x5, x6, x7 => (spec_l01In.f x0 0 128).bind fun t341 => (if t341 = true then ((spec_l01In.f x7 0 128).bind fun t342 => (spec_TouchedBy.j2 k x5 x6 x7 (!t342))) else (spec_TouchedBy.j2 k x5 x6 x7 true))
def spec_TouchedBy.j2 : Nat → List Int → Int → Int → Bool → Option (List Int)
  | 0, _, _, _, _ => none
  | k + 1, x5, x6, x7, x80 => if x80 = true then (some x5) else (spec_TouchedBy.l0 k x5 x6 x7 0)
def spec_TouchedBy.l0 : Nat → List Int → Int → Int → Int → Option (List Int)
  | 0, _, _, _, _ => none
  | k + 1, x5, x6, x7, x8 => if x8 < 4 then (if (wrap64 (x8 * 32)) < x7 then (if (wrap64 ((wrap64 (x8 + 1)) * 32)) > x6 then (if x5.length < 17592186044416 then (spec_TouchedBy.l0 k (x5 ++ [x8]) x6 x7 (wrap64 (x8 + 1))) else (none)) else (spec_TouchedBy.l0 k x5 x6 x7 (wrap64 (x8 + 1)))) else (spec_TouchedBy.l0 k x5 x6 x7 (wrap64 (x8 + 1)))) else (some x5)
def spec_TouchedBy.j0 : Nat → Int → List Int → Int → Bool → Int → ByteArray → ByteArray → Int → Int → ByteArray → Option (List Int)
  | 0, _, _, _, _, _, _, _, _, _, _ => none
  | k + 1, x0, x5, x6, x32, x338000, x338001, x338002, x338003, x338004, x338005 => if x32 = true then (some x5) else (if x338003 < x6 then (spec_TouchedBy.j1 k x0 x5 x338003 (wrap64 (x338003 + (x338005.size : Int)))) else (spec_TouchedBy.j1 k x0 x5 x6 (wrap64 (x338003 + (x338005.size : Int)))))
end
def spec_TouchedBy.f (k : Nat) (a0 : Int) (a1_0 : Int) (a1_1 : ByteArray) (a1_2 : ByteArray) (a1_3 : Int) (a1_4 : Int) (a1_5 : ByteArray) : Option (List Int) := (some (([] : List Int) : List Int)).bind fun y338 => (if a1_0 = 7 then (if a1_5.toList = ([] : List UInt8) then (spec_TouchedBy.j0 k a0 y338 a0 true a1_0 a1_1 a1_2 a1_3 a1_4 a1_5) else (if a1_3 < 0 then (spec_TouchedBy.j0 k a0 y338 a0 true a1_0 a1_1 a1_2 a1_3 a1_4 a1_5) else (spec_TouchedBy.j0 k a0 y338 a0 (decide (a1_3 > (wrap64 (128 - (a1_5.size : Int))))) a1_0 a1_1 a1_2 a1_3 a1_4 a1_5))) else (if a1_0 = 8 then (if a1_4 = a0 then (some y338) else (if a1_4 ≥ 0 then (if a1_4 < a0 then (if (Int.tmod a1_4 32) > 0 then (spec_TouchedBy.j1 k a0 y338 (wrap64 (a1_4 - 1)) a1_4) else (spec_TouchedBy.j1 k a0 y338 a0 a1_4)) else (spec_TouchedBy.j1 k a0 y338 a0 a1_4)) else (spec_TouchedBy.j1 k a0 y338 a0 a1_4))) else (some y338)))
theorem spec_TouchedBy.mono_l : ∀ k, (∀ y0 y1 y2 y3, LeO (spec_TouchedBy.j1 k y0 y1 y2 y3) (spec_TouchedBy.j1 (k + 1) y0 y1 y2 y3)) ∧ (∀ y0 y1 y2 y3, LeO (spec_TouchedBy.j2 k y0 y1 y2 y3) (spec_TouchedBy.j2 (k + 1) y0 y1 y2 y3)) ∧ (∀ y0 y1 y2 y3, LeO (spec_TouchedBy.l0 k y0 y1 y2 y3) (spec_TouchedBy.l0 (k + 1) y0 y1 y2 y3)) ∧ (∀ y0 y1 y2 y3 y4 y5 y6 y7 y8 y9, LeO (spec_TouchedBy.j0 k y0 y1 y2 y3 y4 y5 y6 y7 y8 y9) (spec_TouchedBy.j0 (k + 1) y0 y1 y2 y3 y4 y5 y6 y7 y8 y9))
  | 0 => ⟨fun _ _ _ _ r h => by simp [spec_TouchedBy.j1] at h, fun _ _ _ _ r h => by simp [spec_TouchedBy.j2] at h, fun _ _ _ _ r h => by simp [spec_TouchedBy.l0] at h, fun _ _ _ _ _ _ _ _ _ _ r h => by simp [spec_TouchedBy.j0] at h⟩
  | k + 1 => by
    obtain ⟨ih0, ih1, ih2, ih3⟩ := spec_TouchedBy.mono_l k
    refine ⟨?_, ?_, ?_, ?_⟩
    · intro y0 y1 y2 y3
      unfold spec_TouchedBy.j1
      repeat' first
      | (with_reducible exact ih0 _ _ _ _)
      | (with_reducible exact ih1 _ _ _ _)
      | (with_reducible exact ih2 _ _ _ _)
      | (with_reducible exact ih3 _ _ _ _ _ _ _ _ _ _)
      | (with_reducible exact LeO.refl _)
      | (with_reducible exact LeO.none _)
      | (with_reducible refine LeO.ite ?_ ?_)
      | (with_reducible refine LeO.bind ?_ (fun _ => ?_))
      | exact ih0 _ _ _ _
      | exact ih1 _ _ _ _
      | exact ih2 _ _ _ _
      | exact ih3 _ _ _ _ _ _ _ _ _ _
      | exact LeO.none _
      | refine LeO.ite ?_ ?_
      | refine LeO.bind ?_ (fun _ => ?_)
    · intro y0 y1 y2 y3
      unfold spec_TouchedBy.j2
      repeat' first
      | (with_reducible exact ih0 _ _ _ _)
      | (with_reducible exact ih1 _ _ _ _)
      | (with_reducible exact ih2 _ _ _ _)
      | (with_reducible exact ih3 _ _ _ _ _ _ _ _ _ _)
      | (with_reducible exact LeO.refl _)
      | (with_reducible exact LeO.none _)
      | (with_reducible refine LeO.ite ?_ ?_)
      | (with_reducible refine LeO.bind ?_ (fun _ => ?_))
      | exact ih0 _ _ _ _
      | exact ih1 _ _ _ _
      | exact ih2 _ _ _ _
      | exact ih3 _ _ _ _ _ _ _ _ _ _
      | exact LeO.none _
      | refine LeO.ite ?_ ?_
      | refine LeO.bind ?_ (fun _ => ?_)
    · intro y0 y1 y2 y3
      unfold spec_TouchedBy.l0
      repeat' first
      | (with_reducible exact ih0 _ _ _ _)
      | (with_reducible exact ih1 _ _ _ _)
      | (with_reducible exact ih2 _ _ _ _)
      | (with_reducible exact ih3 _ _ _ _ _ _ _ _ _ _)
      | (with_reducible exact LeO.refl _)
      | (with_reducible exact LeO.none _)
      | (with_reducible refine LeO.ite ?_ ?_)
      | (with_reducible refine LeO.bind ?_ (fun _ => ?_))
      | exact ih0 _ _ _ _
      | exact ih1 _ _ _ _
      | exact ih2 _ _ _ _
      | exact ih3 _ _ _ _ _ _ _ _ _ _
      | exact LeO.none _
      | refine LeO.ite ?_ ?_
      | refine LeO.bind ?_ (fun _ => ?_)
    · intro y0 y1 y2 y3 y4 y5 y6 y7 y8 y9
      unfold spec_TouchedBy.j0
      repeat' first
      | (with_reducible exact ih0 _ _ _ _)
      | (with_reducible exact ih1 _ _ _ _)
      | (with_reducible exact ih2 _ _ _ _)
      | (with_reducible exact ih3 _ _ _ _ _ _ _ _ _ _)
      | (with_reducible exact LeO.refl _)
      | (with_reducible exact LeO.none _)
      | (with_reducible refine LeO.ite ?_ ?_)
      | (with_reducible refine LeO.bind ?_ (fun _ => ?_))
      | exact ih0 _ _ _ _
      | exact ih1 _ _ _ _
      | exact ih2 _ _ _ _
      | exact ih3 _ _ _ _ _ _ _ _ _ _
      | exact LeO.none _
      | refine LeO.ite ?_ ?_
      | refine LeO.bind ?_ (fun _ => ?_)
theorem spec_TouchedBy.mono : ∀ a0 a1 a2 a3 a4 a5 a6 k, LeO (spec_TouchedBy.f k a0 a1 a2 a3 a4 a5 a6) (spec_TouchedBy.f (k + 1) a0 a1 a2 a3 a4 a5 a6) := by
  intro a0 a1 a2 a3 a4 a5 a6 k
  obtain ⟨ih0, ih1, ih2, ih3⟩ := spec_TouchedBy.mono_l k
  unfold spec_TouchedBy.f
  repeat' first
      | (with_reducible exact ih0 _ _ _ _)
      | (with_reducible exact ih1 _ _ _ _)
      | (with_reducible exact ih2 _ _ _ _)
      | (with_reducible exact ih3 _ _ _ _ _ _ _ _ _ _)
      | (with_reducible exact LeO.refl _)
      | (with_reducible exact LeO.none _)
      | (with_reducible refine LeO.ite ?_ ?_)
      | (with_reducible refine LeO.bind ?_ (fun _ => ?_))
      | exact ih0 _ _ _ _
      | exact ih1 _ _ _ _
      | exact ih2 _ _ _ _
      | exact ih3 _ _ _ _ _ _ _ _ _ _
      | exact LeO.none _
      | refine LeO.ite ?_ ?_
      | refine LeO.bind ?_ (fun _ => ?_)
set_option maxHeartbeats 8000000 in
set_option maxRecDepth 100000 in
theorem spec_TouchedBy.calls (k : Nat) (a0 : Int) (a1_0 : Int) (a1_1 : ByteArray) (a1_2 : ByteArray) (a1_3 : Int) (a1_4 : Int) (a1_5 : ByteArray) (r : List Int) (w : World) (h : spec_TouchedBy.f k a0 a1_0 a1_1 a1_2 a1_3 a1_4 a1_5 = some r) :
    Calls Try.prog 35 #[.int .i64 a0, .agg #[.int .i64 a1_0, .string a1_1, .string a1_2, .int .i64 a1_3, .int .i64 a1_4, .string a1_5]] w fun e w' => ∃ v0_ : Value, e = .returned (v0_) ∧ Kd.R (Kd.int .i64) 3 w' w.heap.size (fun _ => True) v0_ r ∧ Below w.heap.size w w' := by
  have hu61 := Try.underlying61
  have HB := Aside0.mk (Below.refl w.heap.size w)
  have H : ((some (([] : List Int) : List Int)).bind fun y338 => (if a1_0 = 7 then (if a1_5.toList = ([] : List UInt8) then (spec_TouchedBy.j0 k a0 y338 a0 true a1_0 a1_1 a1_2 a1_3 a1_4 a1_5) else (if a1_3 < 0 then (spec_TouchedBy.j0 k a0 y338 a0 true a1_0 a1_1 a1_2 a1_3 a1_4 a1_5) else (spec_TouchedBy.j0 k a0 y338 a0 (decide (a1_3 > (wrap64 (128 - (a1_5.size : Int))))) a1_0 a1_1 a1_2 a1_3 a1_4 a1_5))) else (if a1_0 = 8 then (if a1_4 = a0 then (some y338) else (if a1_4 ≥ 0 then (if a1_4 < a0 then (if (Int.tmod a1_4 32) > 0 then (spec_TouchedBy.j1 k a0 y338 (wrap64 (a1_4 - 1)) a1_4) else (spec_TouchedBy.j1 k a0 y338 a0 a1_4)) else (spec_TouchedBy.j1 k a0 y338 a0 a1_4)) else (spec_TouchedBy.j1 k a0 y338 a0 a1_4))) else (some y338)))) = some r := h
  clear h
  obtain ⟨y338, hy338⟩ : ∃ y_ : List Int, y_ = (([] : List Int)) := ⟨_, rfl⟩
  replace H : (if a1_0 = 7 then (if a1_5.toList = ([] : List UInt8) then (spec_TouchedBy.j0 k a0 y338 a0 true a1_0 a1_1 a1_2 a1_3 a1_4 a1_5) else (if a1_3 < 0 then (spec_TouchedBy.j0 k a0 y338 a0 true a1_0 a1_1 a1_2 a1_3 a1_4 a1_5) else (spec_TouchedBy.j0 k a0 y338 a0 (decide (a1_3 > (wrap64 (128 - (a1_5.size : Int))))) a1_0 a1_1 a1_2 a1_3 a1_4 a1_5))) else (if a1_0 = 8 then (if a1_4 = a0 then (some y338) else (if a1_4 ≥ 0 then (if a1_4 < a0 then (if (Int.tmod a1_4 32) > 0 then (spec_TouchedBy.j1 k a0 y338 (wrap64 (a1_4 - 1)) a1_4) else (spec_TouchedBy.j1 k a0 y338 a0 a1_4)) else (spec_TouchedBy.j1 k a0 y338 a0 a1_4)) else (spec_TouchedBy.j1 k a0 y338 a0 a1_4))) else (some y338))) = some r := by first | (rw [hy338]; with_reducible exact H) | (have H2_ := (Option.bind_some _ _).symm.trans H; rw [hy338]; with_reducible exact H2_) | (have H2_ := (Option.bind_some _ _).symm.trans H; with_reducible exact H2_) | with_reducible exact H | (rw [hy338]; exact H) | exact H
  have Ny338 := Aside0.mk hy338
  clear hy338
  have HC3 := Aside0.mk H
  clear H
  go_enter Try.func35, Try.ntmps35
  go_upto_block 0 with (first | ((with_reducible refine gate_dst (N := 3) rfl ?_); (try (refine gate_guard (by rfl) ?_; dsimp only)); refine box_event ?hg (N := 3) ?hd (cs := #[.int .i64 a1_0, .string a1_1, .string a1_2, .int .i64 a1_3, .int .i64 a1_4, .string a1_5]) (t := 61) ?hr ?_; (case hd => rfl); (case hg => rfl); (case hr => first | (go_simp; done) | (go_simp; rfl)); intro gb337 hg w4 hbox hb; have n0_ := Aside0.mk (below_step (by repeat (first | (with_reducible first | exact HB.out | apply below_alloc | apply pw_below_drewN | apply below_drew1) | exact HB.out)) hb); have n1_ := Aside0.mk (hbox); have n2_ := Aside0.mk ((by rw [hg]; exact (below_size (by repeat (first | (with_reducible first | exact HB.out | apply below_alloc | apply pw_below_drewN | apply below_drew1) | exact HB.out))) : w.heap.size ≤ gb337)); have n3_ := Aside0.mk ((by rw [hg]; exact (below_size (by repeat (first | (with_reducible first | exact HB.out | apply below_alloc | apply pw_below_drewN | apply below_drew1) | exact HB.out))) : w.heap.size ≤ gb337)); clear HB; have HB := n0_; have BK337 := n1_; have GW337 := n2_; have GE337 := n3_; clear n0_ n1_ n2_ n3_; clear hb hbox hg) | ((with_reducible refine gate_dst (N := 9) rfl ?_); (try (refine gate_guard (by rfl) ?_; dsimp only)); refine Kd.R_lit (Kd.int .i64) _ 3 ?hg (N := 9) ?hd (xs := ([] : List Int)) (inner := []) (ok := fun _ => True) (okp := fun _ => True) ?hr ?hp (fun _ hk => hk) trivial (Below.refl _ _) (Nat.le_refl _) (by simp) ?_; (case hd => rfl); (case hg => rfl); (case hr => first | (go_simp; done) | (go_simp; rfl)); (case hp => exact (Reps.none _ _)); intro v339 w5 ho6 hb hg_ hnew_; clear hg_ hnew_; (first | rw [← Ny338.out] at ho6 | (simp only [Int.reduceToNat] at ho6; rw [← Ny338.out] at ho6)); have n0_ := Aside0.mk (Kd.R_lower ho6 (below_size (by repeat (first | (with_reducible first | exact HB.out | apply below_alloc | apply pw_below_drewN | apply below_drew1 | refine below_set ?_ GE337.out) | exact HB.out)))); have n1_ := Aside0.mk (blk_below (g := gb337) (o := .cells #[.int .i64 a1_0, .string a1_1, .string a1_2, .int .i64 a1_3, .int .i64 a1_4, .string a1_5] 61 (0, 0)) (by (with_reducible repeat (first | refine blk_drewN ?_ _ | refine blk_drew ?_ | refine blk_alloc ?_ _)); exact BK337.out) hb); have n2_ := Aside0.mk (below_step (by repeat (first | (with_reducible first | exact HB.out | apply below_alloc | apply pw_below_drewN | apply below_drew1 | refine below_set ?_ GE337.out) | exact HB.out)) hb); clear BK337; clear HB; have HO340 := n0_; have BK337 := n1_; have HB := n2_; clear n0_ n1_ n2_; clear hb ho6; have hcz7_0 : w5.cell? ⟨gb337, 0, none⟩ = some (.int .i64 a1_0) := (blk_cell BK337.out 0).trans rfl; have hcz7_1 : w5.cell? ⟨gb337, 1, none⟩ = some (.string a1_1) := (blk_cell BK337.out 1).trans rfl; have hcz7_2 : w5.cell? ⟨gb337, 2, none⟩ = some (.string a1_2) := (blk_cell BK337.out 2).trans rfl; have hcz7_3 : w5.cell? ⟨gb337, 3, none⟩ = some (.int .i64 a1_3) := (blk_cell BK337.out 3).trans rfl; have hcz7_4 : w5.cell? ⟨gb337, 4, none⟩ = some (.int .i64 a1_4) := (blk_cell BK337.out 4).trans rfl; have hcz7_5 : w5.cell? ⟨gb337, 5, none⟩ = some (.string a1_5) := (blk_cell BK337.out 5).trans rfl; have hfz7_0 := blk_frozen BK337.out 0; have hfz7_1 := blk_frozen BK337.out 1; have hfz7_2 := blk_frozen BK337.out 2; have hfz7_3 := blk_frozen BK337.out 3; have hfz7_4 := blk_frozen BK337.out 4; have hfz7_5 := blk_frozen BK337.out 5))
  (try simp only [Act.put, List.setIfInBounds_toArray, List.set_cons_zero, List.set_cons_succ])
  go_cut [6, 7] (fun v6 v7 wc => ∃ (kq : Nat) (x6_2 : Int) (x7_2 : Int), v6 = .int .i64 x6_2 ∧ v7 = .int .i64 x7_2 ∧ Aside0 (spec_TouchedBy.j1 kq a0 y338 x6_2 x7_2 = some r) ∧ Aside0 (kq ≤ k) ∧ Aside0 (Kd.R (Kd.int .i64) 3 wc w.heap.size (fun _ => True) v339 y338) ∧ Aside0 (wc.heap[gb337]? = some (.cells #[.int .i64 a1_0, .string a1_1, .string a1_2, .int .i64 a1_3, .int .i64 a1_4, .string a1_5] 61 (0, 0))) ∧ Aside0 (Below w.heap.size w wc))
  case first =>
    have H := HC3.out
    clear HC3
    by_cases c8 : a1_0 = 7
    · rw [if_pos c8] at H
      have c8b0 : (a1_0 == 7) = true := beq_iff_eq.mpr c8
      have c8b1 : (a1_0 != 7) = false := bne_eq_false_iff_eq.mpr c8
      clear c8
      (first | rw [c8b0] | (simp only [i64_w, i32_w]; rw [c8b0]) | skip)
      have HC9 := Aside0.mk H
      clear H
      go_upto_region 7 with (fail)
      go_cut [32] (fun v32 wc => ∃ (kq : Nat) (x32_8 : Bool), v32 = .bool x32_8 ∧ Aside0 (spec_TouchedBy.j0 kq a0 y338 a0 x32_8 a1_0 a1_1 a1_2 a1_3 a1_4 a1_5 = some r) ∧ Aside0 (kq ≤ k) ∧ Aside0 (Kd.R (Kd.int .i64) 3 wc w.heap.size (fun _ => True) v339 y338) ∧ Aside0 (wc.heap[gb337]? = some (.cells #[.int .i64 a1_0, .string a1_1, .string a1_2, .int .i64 a1_3, .int .i64 a1_4, .string a1_5] 61 (0, 0))) ∧ Aside0 (Below w.heap.size w wc))
      case first =>
        have H := HC9.out
        clear HC9
        by_cases c10 : a1_5.toList = ([] : List UInt8)
        · rw [if_pos c10] at H
          have c10b0 : (a1_5.toList == ([] : List UInt8)) = true := beq_iff_eq.mpr c10
          have c10b1 : (a1_5.toList != ([] : List UInt8)) = false := bne_eq_false_iff_eq.mpr c10
          clear c10
          (first | rw [c10b0] | (simp only [i64_w, i32_w]; rw [c10b0]) | skip)
          have H' := Aside0.mk H
          clear H
          have hcz11_0 : w5.cell? ⟨gb337, 0, none⟩ = some (.int .i64 a1_0) := (blk_cell BK337.out 0).trans rfl
          have hcz11_1 : w5.cell? ⟨gb337, 1, none⟩ = some (.string a1_1) := (blk_cell BK337.out 1).trans rfl
          have hcz11_2 : w5.cell? ⟨gb337, 2, none⟩ = some (.string a1_2) := (blk_cell BK337.out 2).trans rfl
          have hcz11_3 : w5.cell? ⟨gb337, 3, none⟩ = some (.int .i64 a1_3) := (blk_cell BK337.out 3).trans rfl
          have hcz11_4 : w5.cell? ⟨gb337, 4, none⟩ = some (.int .i64 a1_4) := (blk_cell BK337.out 4).trans rfl
          have hcz11_5 : w5.cell? ⟨gb337, 5, none⟩ = some (.string a1_5) := (blk_cell BK337.out 5).trans rfl
          have hfz11_0 := blk_frozen BK337.out 0
          have hfz11_1 := blk_frozen BK337.out 1
          have hfz11_2 := blk_frozen BK337.out 2
          have hfz11_3 := blk_frozen BK337.out 3
          have hfz11_4 := blk_frozen BK337.out 4
          have hfz11_5 := blk_frozen BK337.out 5
          go_wp2
          go_meet
          case rel => exact ⟨_, (true), (by first | rfl | (simp; done) | (simp [*]; done)), H', ⟨by first | omega | exact Nat.le_refl _⟩, ⟨by (with_reducible repeat (first | apply Kd.R_alloc | apply Kd.R_drewN | apply Kd.R_drew)); exact HO340.out⟩, ⟨by (with_reducible repeat (first | refine blk_drewN ?_ _ | refine blk_drew ?_ | refine blk_alloc ?_ _)); exact BK337.out⟩, ⟨by repeat (first | (with_reducible first | exact HB.out | apply below_alloc | apply pw_below_drewN | apply below_drew1 | refine below_set ?_ GE337.out) | exact HB.out)⟩⟩
        · rw [if_neg c10] at H
          have c10b0 : (a1_5.toList == ([] : List UInt8)) = false := beq_eq_false_iff_ne.mpr c10
          have c10b1 : (a1_5.toList != ([] : List UInt8)) = true := bne_iff_ne.mpr c10
          (first | rw [c10b0] | (simp only [i64_w, i32_w]; rw [c10b0]) | skip)
          by_cases c12 : a1_3 < 0
          · rw [if_pos c12] at H
            have c12b0 : decide (a1_3 < 0) = true := decide_eq_true c12
            clear c12
            have H' := Aside0.mk H
            clear H
            have hcz13_0 : w5.cell? ⟨gb337, 0, none⟩ = some (.int .i64 a1_0) := (blk_cell BK337.out 0).trans rfl
            have hcz13_1 : w5.cell? ⟨gb337, 1, none⟩ = some (.string a1_1) := (blk_cell BK337.out 1).trans rfl
            have hcz13_2 : w5.cell? ⟨gb337, 2, none⟩ = some (.string a1_2) := (blk_cell BK337.out 2).trans rfl
            have hcz13_3 : w5.cell? ⟨gb337, 3, none⟩ = some (.int .i64 a1_3) := (blk_cell BK337.out 3).trans rfl
            have hcz13_4 : w5.cell? ⟨gb337, 4, none⟩ = some (.int .i64 a1_4) := (blk_cell BK337.out 4).trans rfl
            have hcz13_5 : w5.cell? ⟨gb337, 5, none⟩ = some (.string a1_5) := (blk_cell BK337.out 5).trans rfl
            have hfz13_0 := blk_frozen BK337.out 0
            have hfz13_1 := blk_frozen BK337.out 1
            have hfz13_2 := blk_frozen BK337.out 2
            have hfz13_3 := blk_frozen BK337.out 3
            have hfz13_4 := blk_frozen BK337.out 4
            have hfz13_5 := blk_frozen BK337.out 5
            go_wp2
            go_meet
            case rel => exact ⟨_, (true), (by first | rfl | (simp; done) | (simp [*]; done)), H', ⟨by first | omega | exact Nat.le_refl _⟩, ⟨by (with_reducible repeat (first | apply Kd.R_alloc | apply Kd.R_drewN | apply Kd.R_drew)); exact HO340.out⟩, ⟨by (with_reducible repeat (first | refine blk_drewN ?_ _ | refine blk_drew ?_ | refine blk_alloc ?_ _)); exact BK337.out⟩, ⟨by repeat (first | (with_reducible first | exact HB.out | apply below_alloc | apply pw_below_drewN | apply below_drew1 | refine below_set ?_ GE337.out) | exact HB.out)⟩⟩
          · rw [if_neg c12] at H
            have c12b0 : decide (a1_3 < 0) = false := decide_eq_false c12
            clear c12
            have H' := Aside0.mk H
            clear H
            have hcz14_0 : w5.cell? ⟨gb337, 0, none⟩ = some (.int .i64 a1_0) := (blk_cell BK337.out 0).trans rfl
            have hcz14_1 : w5.cell? ⟨gb337, 1, none⟩ = some (.string a1_1) := (blk_cell BK337.out 1).trans rfl
            have hcz14_2 : w5.cell? ⟨gb337, 2, none⟩ = some (.string a1_2) := (blk_cell BK337.out 2).trans rfl
            have hcz14_3 : w5.cell? ⟨gb337, 3, none⟩ = some (.int .i64 a1_3) := (blk_cell BK337.out 3).trans rfl
            have hcz14_4 : w5.cell? ⟨gb337, 4, none⟩ = some (.int .i64 a1_4) := (blk_cell BK337.out 4).trans rfl
            have hcz14_5 : w5.cell? ⟨gb337, 5, none⟩ = some (.string a1_5) := (blk_cell BK337.out 5).trans rfl
            have hfz14_0 := blk_frozen BK337.out 0
            have hfz14_1 := blk_frozen BK337.out 1
            have hfz14_2 := blk_frozen BK337.out 2
            have hfz14_3 := blk_frozen BK337.out 3
            have hfz14_4 := blk_frozen BK337.out 4
            have hfz14_5 := blk_frozen BK337.out 5
            go_wp2
            go_meet
            case rel => exact ⟨_, (decide (a1_3 > (wrap64 (128 - (a1_5.size : Int))))), (by first | rfl | (simp; done) | (simp [*]; done)), H', ⟨by first | omega | exact Nat.le_refl _⟩, ⟨by (with_reducible repeat (first | apply Kd.R_alloc | apply Kd.R_drewN | apply Kd.R_drew)); exact HO340.out⟩, ⟨by (with_reducible repeat (first | refine blk_drewN ?_ _ | refine blk_drew ?_ | refine blk_alloc ?_ _)); exact BK337.out⟩, ⟨by repeat (first | (with_reducible first | exact HB.out | apply below_alloc | apply pw_below_drewN | apply below_drew1 | refine below_set ?_ GE337.out) | exact HB.out)⟩⟩
      case rest =>
        clear HC9
        try clear c1
        try clear p2
        try clear c3
        try clear p6
        try clear c8
        try clear c8b0
        try clear c8b1
        try clear c10
        try clear c10b0
        try clear c10b1
        try clear c12
        try clear c12b0
        try clear hcz11_0
        try clear hcz11_1
        try clear hcz11_2
        try clear hcz11_3
        try clear hcz11_4
        try clear hcz11_5
        try clear hcz13_0
        try clear hcz13_1
        try clear hcz13_2
        try clear hcz13_3
        try clear hcz13_4
        try clear hcz13_5
        try clear hcz14_0
        try clear hcz14_1
        try clear hcz14_2
        try clear hcz14_3
        try clear hcz14_4
        try clear hcz14_5
        try clear hcz7_0
        try clear hcz7_1
        try clear hcz7_2
        try clear hcz7_3
        try clear hcz7_4
        try clear hcz7_5
        try clear hfz11_0
        try clear hfz11_1
        try clear hfz11_2
        try clear hfz11_3
        try clear hfz11_4
        try clear hfz11_5
        try clear hfz13_0
        try clear hfz13_1
        try clear hfz13_2
        try clear hfz13_3
        try clear hfz13_4
        try clear hfz13_5
        try clear hfz14_0
        try clear hfz14_1
        try clear hfz14_2
        try clear hfz14_3
        try clear hfz14_4
        try clear hfz14_5
        try clear hfz7_0
        try clear hfz7_1
        try clear hfz7_2
        try clear hfz7_3
        try clear hfz7_4
        try clear hfz7_5
        obtain ⟨kq, x32_8, rfl, HA, HJ8, HO_5, BK337, HB⟩ := hcut
        cases kq with
        | zero => exact absurd HA.out (by simp [spec_TouchedBy.j0])
        | succ kj8 =>
          have H := HA.out
          clear HA
          simp only [spec_TouchedBy.j0] at H
          by_cases c15 : x32_8 = true
          · subst c15
            have H1 : (some y338) = some r := by rw [if_pos rfl] at H; exact H
            clear H
            have H := H1
            clear H1
            obtain rfl := Option.some.inj H
            go_wp2
            go_ret
            exact ⟨_, by first | rfl | (simp [errW_none, errW_some] <;> rfl) | (simp [*, errW_none, errW_some] <;> rfl), by (with_reducible repeat (first | apply Kd.R_alloc | apply Kd.R_drewN | apply Kd.R_drew)); exact HO_5.out, by repeat (first | (with_reducible first | exact HB.out | apply below_alloc | apply pw_below_drewN | apply below_drew1 | refine below_set ?_ GE337.out) | exact HB.out)⟩
          · replace c15 := Bool.eq_false_iff.mpr c15
            subst c15
            have H1 : (if a1_3 < a0 then (spec_TouchedBy.j1 kj8 a0 y338 a1_3 (wrap64 (a1_3 + (a1_5.size : Int)))) else (spec_TouchedBy.j1 kj8 a0 y338 a0 (wrap64 (a1_3 + (a1_5.size : Int))))) = some r := by rw [if_neg (show ¬ (false = true) by decide)] at H; exact H
            clear H
            have H := H1
            clear H1
            by_cases c16 : a1_3 < a0
            · rw [if_pos c16] at H
              have c16b0 : decide (a1_3 < a0) = true := decide_eq_true c16
              clear c16
              have H' := Aside0.mk H
              clear H
              have hcz17_0 : wc.cell? ⟨gb337, 0, none⟩ = some (.int .i64 a1_0) := (blk_cell BK337.out 0).trans rfl
              have hcz17_1 : wc.cell? ⟨gb337, 1, none⟩ = some (.string a1_1) := (blk_cell BK337.out 1).trans rfl
              have hcz17_2 : wc.cell? ⟨gb337, 2, none⟩ = some (.string a1_2) := (blk_cell BK337.out 2).trans rfl
              have hcz17_3 : wc.cell? ⟨gb337, 3, none⟩ = some (.int .i64 a1_3) := (blk_cell BK337.out 3).trans rfl
              have hcz17_4 : wc.cell? ⟨gb337, 4, none⟩ = some (.int .i64 a1_4) := (blk_cell BK337.out 4).trans rfl
              have hcz17_5 : wc.cell? ⟨gb337, 5, none⟩ = some (.string a1_5) := (blk_cell BK337.out 5).trans rfl
              have hfz17_0 := blk_frozen BK337.out 0
              have hfz17_1 := blk_frozen BK337.out 1
              have hfz17_2 := blk_frozen BK337.out 2
              have hfz17_3 := blk_frozen BK337.out 3
              have hfz17_4 := blk_frozen BK337.out 4
              have hfz17_5 := blk_frozen BK337.out 5
              go_wp2
              go_meet
              case rel => exact ⟨_, (a1_3), (wrap64 (a1_3 + (a1_5.size : Int))), (by first | rfl | (simp; done) | (simp [*]; done)), (by first | rfl | (simp; done) | (simp [*]; done)), H', ⟨by have := HJ8.out; first | omega | exact Nat.le_refl _⟩, ⟨by (with_reducible repeat (first | apply Kd.R_alloc | apply Kd.R_drewN | apply Kd.R_drew)); exact HO_5.out⟩, ⟨by (with_reducible repeat (first | refine blk_drewN ?_ _ | refine blk_drew ?_ | refine blk_alloc ?_ _)); exact BK337.out⟩, ⟨by repeat (first | (with_reducible first | exact HB.out | apply below_alloc | apply pw_below_drewN | apply below_drew1 | refine below_set ?_ GE337.out) | exact HB.out)⟩⟩
            · rw [if_neg c16] at H
              have c16b0 : decide (a1_3 < a0) = false := decide_eq_false c16
              clear c16
              have H' := Aside0.mk H
              clear H
              have hcz18_0 : wc.cell? ⟨gb337, 0, none⟩ = some (.int .i64 a1_0) := (blk_cell BK337.out 0).trans rfl
              have hcz18_1 : wc.cell? ⟨gb337, 1, none⟩ = some (.string a1_1) := (blk_cell BK337.out 1).trans rfl
              have hcz18_2 : wc.cell? ⟨gb337, 2, none⟩ = some (.string a1_2) := (blk_cell BK337.out 2).trans rfl
              have hcz18_3 : wc.cell? ⟨gb337, 3, none⟩ = some (.int .i64 a1_3) := (blk_cell BK337.out 3).trans rfl
              have hcz18_4 : wc.cell? ⟨gb337, 4, none⟩ = some (.int .i64 a1_4) := (blk_cell BK337.out 4).trans rfl
              have hcz18_5 : wc.cell? ⟨gb337, 5, none⟩ = some (.string a1_5) := (blk_cell BK337.out 5).trans rfl
              have hfz18_0 := blk_frozen BK337.out 0
              have hfz18_1 := blk_frozen BK337.out 1
              have hfz18_2 := blk_frozen BK337.out 2
              have hfz18_3 := blk_frozen BK337.out 3
              have hfz18_4 := blk_frozen BK337.out 4
              have hfz18_5 := blk_frozen BK337.out 5
              go_wp2
              go_meet
              case rel => exact ⟨_, (a0), (wrap64 (a1_3 + (a1_5.size : Int))), (by first | rfl | (simp; done) | (simp [*]; done)), (by first | rfl | (simp; done) | (simp [*]; done)), H', ⟨by have := HJ8.out; first | omega | exact Nat.le_refl _⟩, ⟨by (with_reducible repeat (first | apply Kd.R_alloc | apply Kd.R_drewN | apply Kd.R_drew)); exact HO_5.out⟩, ⟨by (with_reducible repeat (first | refine blk_drewN ?_ _ | refine blk_drew ?_ | refine blk_alloc ?_ _)); exact BK337.out⟩, ⟨by repeat (first | (with_reducible first | exact HB.out | apply below_alloc | apply pw_below_drewN | apply below_drew1 | refine below_set ?_ GE337.out) | exact HB.out)⟩⟩
    · rw [if_neg c8] at H
      have c8b0 : (a1_0 == 7) = false := beq_eq_false_iff_ne.mpr c8
      have c8b1 : (a1_0 != 7) = true := bne_iff_ne.mpr c8
      (first | rw [c8b0] | (simp only [i64_w, i32_w]; rw [c8b0]) | skip)
      by_cases c19 : a1_0 = 8
      · rw [if_pos c19] at H
        have c19b0 : (a1_0 == 8) = true := beq_iff_eq.mpr c19
        have c19b1 : (a1_0 != 8) = false := bne_eq_false_iff_eq.mpr c19
        clear c19
        by_cases c20 : a1_4 = a0
        · rw [if_pos c20] at H
          have c20b0 : (a1_4 == a0) = true := beq_iff_eq.mpr c20
          have c20b1 : (a1_4 != a0) = false := bne_eq_false_iff_eq.mpr c20
          clear c20
          obtain rfl := Option.some.inj H
          have hcz21_0 : w5.cell? ⟨gb337, 0, none⟩ = some (.int .i64 a1_0) := (blk_cell BK337.out 0).trans rfl
          have hcz21_1 : w5.cell? ⟨gb337, 1, none⟩ = some (.string a1_1) := (blk_cell BK337.out 1).trans rfl
          have hcz21_2 : w5.cell? ⟨gb337, 2, none⟩ = some (.string a1_2) := (blk_cell BK337.out 2).trans rfl
          have hcz21_3 : w5.cell? ⟨gb337, 3, none⟩ = some (.int .i64 a1_3) := (blk_cell BK337.out 3).trans rfl
          have hcz21_4 : w5.cell? ⟨gb337, 4, none⟩ = some (.int .i64 a1_4) := (blk_cell BK337.out 4).trans rfl
          have hcz21_5 : w5.cell? ⟨gb337, 5, none⟩ = some (.string a1_5) := (blk_cell BK337.out 5).trans rfl
          have hfz21_0 := blk_frozen BK337.out 0
          have hfz21_1 := blk_frozen BK337.out 1
          have hfz21_2 := blk_frozen BK337.out 2
          have hfz21_3 := blk_frozen BK337.out 3
          have hfz21_4 := blk_frozen BK337.out 4
          have hfz21_5 := blk_frozen BK337.out 5
          go_wp2
          go_ret
          exact ⟨_, by first | rfl | (simp [errW_none, errW_some] <;> rfl) | (simp [*, errW_none, errW_some] <;> rfl), by (with_reducible repeat (first | apply Kd.R_alloc | apply Kd.R_drewN | apply Kd.R_drew)); exact HO340.out, by repeat (first | (with_reducible first | exact HB.out | apply below_alloc | apply pw_below_drewN | apply below_drew1 | refine below_set ?_ GE337.out) | exact HB.out)⟩
        · rw [if_neg c20] at H
          have c20b0 : (a1_4 == a0) = false := beq_eq_false_iff_ne.mpr c20
          have c20b1 : (a1_4 != a0) = true := bne_iff_ne.mpr c20
          by_cases c22 : a1_4 ≥ 0
          · rw [if_pos c22] at H
            have c22b0 : decide (0 ≤ a1_4) = true := decide_eq_true c22
            clear c22
            by_cases c23 : a1_4 < a0
            · rw [if_pos c23] at H
              have c23b0 : decide (a1_4 < a0) = true := decide_eq_true c23
              clear c23
              by_cases c24 : (Int.tmod a1_4 32) > 0
              · rw [if_pos c24] at H
                have c24b0 : decide (0 < (Int.tmod a1_4 32)) = true := decide_eq_true c24
                clear c24
                have H' := Aside0.mk H
                clear H
                have hcz25_0 : w5.cell? ⟨gb337, 0, none⟩ = some (.int .i64 a1_0) := (blk_cell BK337.out 0).trans rfl
                have hcz25_1 : w5.cell? ⟨gb337, 1, none⟩ = some (.string a1_1) := (blk_cell BK337.out 1).trans rfl
                have hcz25_2 : w5.cell? ⟨gb337, 2, none⟩ = some (.string a1_2) := (blk_cell BK337.out 2).trans rfl
                have hcz25_3 : w5.cell? ⟨gb337, 3, none⟩ = some (.int .i64 a1_3) := (blk_cell BK337.out 3).trans rfl
                have hcz25_4 : w5.cell? ⟨gb337, 4, none⟩ = some (.int .i64 a1_4) := (blk_cell BK337.out 4).trans rfl
                have hcz25_5 : w5.cell? ⟨gb337, 5, none⟩ = some (.string a1_5) := (blk_cell BK337.out 5).trans rfl
                have hfz25_0 := blk_frozen BK337.out 0
                have hfz25_1 := blk_frozen BK337.out 1
                have hfz25_2 := blk_frozen BK337.out 2
                have hfz25_3 := blk_frozen BK337.out 3
                have hfz25_4 := blk_frozen BK337.out 4
                have hfz25_5 := blk_frozen BK337.out 5
                go_wp2
                go_meet
                case rel => exact ⟨_, (wrap64 (a1_4 - 1)), (a1_4), (by first | rfl | (simp; done) | (simp [*]; done)), (by first | rfl | (simp; done) | (simp [*]; done)), H', ⟨by first | omega | exact Nat.le_refl _⟩, ⟨by (with_reducible repeat (first | apply Kd.R_alloc | apply Kd.R_drewN | apply Kd.R_drew)); exact HO340.out⟩, ⟨by (with_reducible repeat (first | refine blk_drewN ?_ _ | refine blk_drew ?_ | refine blk_alloc ?_ _)); exact BK337.out⟩, ⟨by repeat (first | (with_reducible first | exact HB.out | apply below_alloc | apply pw_below_drewN | apply below_drew1 | refine below_set ?_ GE337.out) | exact HB.out)⟩⟩
              · rw [if_neg c24] at H
                have c24b0 : decide (0 < (Int.tmod a1_4 32)) = false := decide_eq_false c24
                clear c24
                have H' := Aside0.mk H
                clear H
                have hcz26_0 : w5.cell? ⟨gb337, 0, none⟩ = some (.int .i64 a1_0) := (blk_cell BK337.out 0).trans rfl
                have hcz26_1 : w5.cell? ⟨gb337, 1, none⟩ = some (.string a1_1) := (blk_cell BK337.out 1).trans rfl
                have hcz26_2 : w5.cell? ⟨gb337, 2, none⟩ = some (.string a1_2) := (blk_cell BK337.out 2).trans rfl
                have hcz26_3 : w5.cell? ⟨gb337, 3, none⟩ = some (.int .i64 a1_3) := (blk_cell BK337.out 3).trans rfl
                have hcz26_4 : w5.cell? ⟨gb337, 4, none⟩ = some (.int .i64 a1_4) := (blk_cell BK337.out 4).trans rfl
                have hcz26_5 : w5.cell? ⟨gb337, 5, none⟩ = some (.string a1_5) := (blk_cell BK337.out 5).trans rfl
                have hfz26_0 := blk_frozen BK337.out 0
                have hfz26_1 := blk_frozen BK337.out 1
                have hfz26_2 := blk_frozen BK337.out 2
                have hfz26_3 := blk_frozen BK337.out 3
                have hfz26_4 := blk_frozen BK337.out 4
                have hfz26_5 := blk_frozen BK337.out 5
                go_wp2
                go_meet
                case rel => exact ⟨_, (a0), (a1_4), (by first | rfl | (simp; done) | (simp [*]; done)), (by first | rfl | (simp; done) | (simp [*]; done)), H', ⟨by first | omega | exact Nat.le_refl _⟩, ⟨by (with_reducible repeat (first | apply Kd.R_alloc | apply Kd.R_drewN | apply Kd.R_drew)); exact HO340.out⟩, ⟨by (with_reducible repeat (first | refine blk_drewN ?_ _ | refine blk_drew ?_ | refine blk_alloc ?_ _)); exact BK337.out⟩, ⟨by repeat (first | (with_reducible first | exact HB.out | apply below_alloc | apply pw_below_drewN | apply below_drew1 | refine below_set ?_ GE337.out) | exact HB.out)⟩⟩
            · rw [if_neg c23] at H
              have c23b0 : decide (a1_4 < a0) = false := decide_eq_false c23
              clear c23
              have H' := Aside0.mk H
              clear H
              have hcz27_0 : w5.cell? ⟨gb337, 0, none⟩ = some (.int .i64 a1_0) := (blk_cell BK337.out 0).trans rfl
              have hcz27_1 : w5.cell? ⟨gb337, 1, none⟩ = some (.string a1_1) := (blk_cell BK337.out 1).trans rfl
              have hcz27_2 : w5.cell? ⟨gb337, 2, none⟩ = some (.string a1_2) := (blk_cell BK337.out 2).trans rfl
              have hcz27_3 : w5.cell? ⟨gb337, 3, none⟩ = some (.int .i64 a1_3) := (blk_cell BK337.out 3).trans rfl
              have hcz27_4 : w5.cell? ⟨gb337, 4, none⟩ = some (.int .i64 a1_4) := (blk_cell BK337.out 4).trans rfl
              have hcz27_5 : w5.cell? ⟨gb337, 5, none⟩ = some (.string a1_5) := (blk_cell BK337.out 5).trans rfl
              have hfz27_0 := blk_frozen BK337.out 0
              have hfz27_1 := blk_frozen BK337.out 1
              have hfz27_2 := blk_frozen BK337.out 2
              have hfz27_3 := blk_frozen BK337.out 3
              have hfz27_4 := blk_frozen BK337.out 4
              have hfz27_5 := blk_frozen BK337.out 5
              go_wp2
              go_meet
              case rel => exact ⟨_, (a0), (a1_4), (by first | rfl | (simp; done) | (simp [*]; done)), (by first | rfl | (simp; done) | (simp [*]; done)), H', ⟨by first | omega | exact Nat.le_refl _⟩, ⟨by (with_reducible repeat (first | apply Kd.R_alloc | apply Kd.R_drewN | apply Kd.R_drew)); exact HO340.out⟩, ⟨by (with_reducible repeat (first | refine blk_drewN ?_ _ | refine blk_drew ?_ | refine blk_alloc ?_ _)); exact BK337.out⟩, ⟨by repeat (first | (with_reducible first | exact HB.out | apply below_alloc | apply pw_below_drewN | apply below_drew1 | refine below_set ?_ GE337.out) | exact HB.out)⟩⟩
          · rw [if_neg c22] at H
            have c22b0 : decide (0 ≤ a1_4) = false := decide_eq_false c22
            clear c22
            have H' := Aside0.mk H
            clear H
            have hcz28_0 : w5.cell? ⟨gb337, 0, none⟩ = some (.int .i64 a1_0) := (blk_cell BK337.out 0).trans rfl
            have hcz28_1 : w5.cell? ⟨gb337, 1, none⟩ = some (.string a1_1) := (blk_cell BK337.out 1).trans rfl
            have hcz28_2 : w5.cell? ⟨gb337, 2, none⟩ = some (.string a1_2) := (blk_cell BK337.out 2).trans rfl
            have hcz28_3 : w5.cell? ⟨gb337, 3, none⟩ = some (.int .i64 a1_3) := (blk_cell BK337.out 3).trans rfl
            have hcz28_4 : w5.cell? ⟨gb337, 4, none⟩ = some (.int .i64 a1_4) := (blk_cell BK337.out 4).trans rfl
            have hcz28_5 : w5.cell? ⟨gb337, 5, none⟩ = some (.string a1_5) := (blk_cell BK337.out 5).trans rfl
            have hfz28_0 := blk_frozen BK337.out 0
            have hfz28_1 := blk_frozen BK337.out 1
            have hfz28_2 := blk_frozen BK337.out 2
            have hfz28_3 := blk_frozen BK337.out 3
            have hfz28_4 := blk_frozen BK337.out 4
            have hfz28_5 := blk_frozen BK337.out 5
            go_wp2
            go_meet
            case rel => exact ⟨_, (a0), (a1_4), (by first | rfl | (simp; done) | (simp [*]; done)), (by first | rfl | (simp; done) | (simp [*]; done)), H', ⟨by first | omega | exact Nat.le_refl _⟩, ⟨by (with_reducible repeat (first | apply Kd.R_alloc | apply Kd.R_drewN | apply Kd.R_drew)); exact HO340.out⟩, ⟨by (with_reducible repeat (first | refine blk_drewN ?_ _ | refine blk_drew ?_ | refine blk_alloc ?_ _)); exact BK337.out⟩, ⟨by repeat (first | (with_reducible first | exact HB.out | apply below_alloc | apply pw_below_drewN | apply below_drew1 | refine below_set ?_ GE337.out) | exact HB.out)⟩⟩
      · rw [if_neg c19] at H
        have c19b0 : (a1_0 == 8) = false := beq_eq_false_iff_ne.mpr c19
        have c19b1 : (a1_0 != 8) = true := bne_iff_ne.mpr c19
        obtain rfl := Option.some.inj H
        go_wp2
        go_ret
        exact ⟨_, by first | rfl | (simp [errW_none, errW_some] <;> rfl) | (simp [*, errW_none, errW_some] <;> rfl), by (with_reducible repeat (first | apply Kd.R_alloc | apply Kd.R_drewN | apply Kd.R_drew)); exact HO340.out, by repeat (first | (with_reducible first | exact HB.out | apply below_alloc | apply pw_below_drewN | apply below_drew1 | refine below_set ?_ GE337.out) | exact HB.out)⟩
  case rest =>
    clear HC3
    try clear c1
    try clear c2
    try clear p2
    try clear c3
    try clear p6
    try clear c8
    try clear c8b0
    try clear c8b1
    try clear c10
    try clear c10b0
    try clear c10b1
    try clear c12
    try clear c12b0
    try clear c15
    try clear c16
    try clear c16b0
    try clear c19
    try clear c19b0
    try clear c19b1
    try clear c20
    try clear c20b0
    try clear c20b1
    try clear c22
    try clear c22b0
    try clear c23
    try clear c23b0
    try clear c24
    try clear c24b0
    try clear hcz11_0
    try clear hcz11_1
    try clear hcz11_2
    try clear hcz11_3
    try clear hcz11_4
    try clear hcz11_5
    try clear hcz13_0
    try clear hcz13_1
    try clear hcz13_2
    try clear hcz13_3
    try clear hcz13_4
    try clear hcz13_5
    try clear hcz14_0
    try clear hcz14_1
    try clear hcz14_2
    try clear hcz14_3
    try clear hcz14_4
    try clear hcz14_5
    try clear hcz17_0
    try clear hcz17_1
    try clear hcz17_2
    try clear hcz17_3
    try clear hcz17_4
    try clear hcz17_5
    try clear hcz18_0
    try clear hcz18_1
    try clear hcz18_2
    try clear hcz18_3
    try clear hcz18_4
    try clear hcz18_5
    try clear hcz21_0
    try clear hcz21_1
    try clear hcz21_2
    try clear hcz21_3
    try clear hcz21_4
    try clear hcz21_5
    try clear hcz25_0
    try clear hcz25_1
    try clear hcz25_2
    try clear hcz25_3
    try clear hcz25_4
    try clear hcz25_5
    try clear hcz26_0
    try clear hcz26_1
    try clear hcz26_2
    try clear hcz26_3
    try clear hcz26_4
    try clear hcz26_5
    try clear hcz27_0
    try clear hcz27_1
    try clear hcz27_2
    try clear hcz27_3
    try clear hcz27_4
    try clear hcz27_5
    try clear hcz28_0
    try clear hcz28_1
    try clear hcz28_2
    try clear hcz28_3
    try clear hcz28_4
    try clear hcz28_5
    try clear hcz7_0
    try clear hcz7_1
    try clear hcz7_2
    try clear hcz7_3
    try clear hcz7_4
    try clear hcz7_5
    try clear hfz11_0
    try clear hfz11_1
    try clear hfz11_2
    try clear hfz11_3
    try clear hfz11_4
    try clear hfz11_5
    try clear hfz13_0
    try clear hfz13_1
    try clear hfz13_2
    try clear hfz13_3
    try clear hfz13_4
    try clear hfz13_5
    try clear hfz14_0
    try clear hfz14_1
    try clear hfz14_2
    try clear hfz14_3
    try clear hfz14_4
    try clear hfz14_5
    try clear hfz17_0
    try clear hfz17_1
    try clear hfz17_2
    try clear hfz17_3
    try clear hfz17_4
    try clear hfz17_5
    try clear hfz18_0
    try clear hfz18_1
    try clear hfz18_2
    try clear hfz18_3
    try clear hfz18_4
    try clear hfz18_5
    try clear hfz21_0
    try clear hfz21_1
    try clear hfz21_2
    try clear hfz21_3
    try clear hfz21_4
    try clear hfz21_5
    try clear hfz25_0
    try clear hfz25_1
    try clear hfz25_2
    try clear hfz25_3
    try clear hfz25_4
    try clear hfz25_5
    try clear hfz26_0
    try clear hfz26_1
    try clear hfz26_2
    try clear hfz26_3
    try clear hfz26_4
    try clear hfz26_5
    try clear hfz27_0
    try clear hfz27_1
    try clear hfz27_2
    try clear hfz27_3
    try clear hfz27_4
    try clear hfz27_5
    try clear hfz28_0
    try clear hfz28_1
    try clear hfz28_2
    try clear hfz28_3
    try clear hfz28_4
    try clear hfz28_5
    try clear hfz7_0
    try clear hfz7_1
    try clear hfz7_2
    try clear hfz7_3
    try clear hfz7_4
    try clear hfz7_5
    try clear p2
    try clear p6
    obtain ⟨kq, x6_2, x7_2, rfl, rfl, HA, HJ2, HO_5, BK337, HB⟩ := hcut
    cases kq with
    | zero => exact absurd HA.out (by simp [spec_TouchedBy.j1])
    | succ kj2 =>
      have H := HA.out
      clear HA
      simp only [spec_TouchedBy.j1] at H
      have HC29 := Aside0.mk H
      clear H
      go_upto_region 18 with (fail)
      go_cut [80] (fun v80 wc => ∃ (kq : Nat) (x80_28 : Bool), v80 = .bool x80_28 ∧ Aside0 (spec_TouchedBy.j2 kq y338 x6_2 x7_2 x80_28 = some r) ∧ Aside0 (kq ≤ kj2) ∧ Aside0 (Kd.R (Kd.int .i64) 3 wc w.heap.size (fun _ => True) v339 y338) ∧ Aside0 (wc.heap[gb337]? = some (.cells #[.int .i64 a1_0, .string a1_1, .string a1_2, .int .i64 a1_3, .int .i64 a1_4, .string a1_5] 61 (0, 0))) ∧ Aside0 (Below w.heap.size w wc))
      case first =>
        have H := HC29.out
        clear HC29
        replace H := Option.bind_eq_some_iff.mp H
        obtain ⟨t341, A300, H⟩ := H
        replace H : (if t341 = true then ((spec_l01In.f x7_2 0 128).bind fun t342 => (spec_TouchedBy.j2 kj2 y338 x6_2 x7_2 (!t342))) else (spec_TouchedBy.j2 kj2 y338 x6_2 x7_2 true)) = some r := H
        have A30 := Aside0.mk A300
        clear A300
        by_cases c31 : t341 = true
        · subst c31
          have H1 : ((spec_l01In.f x7_2 0 128).bind fun t342 => (spec_TouchedBy.j2 kj2 y338 x6_2 x7_2 (!t342))) = some r := by rw [if_pos rfl] at H; exact H
          clear H
          have H := H1
          clear H1
          replace H := Option.bind_eq_some_iff.mp H
          obtain ⟨t342, A320, H⟩ := H
          replace H : (spec_TouchedBy.j2 kj2 y338 x6_2 x7_2 (!t342)) = some r := H
          have A32 := Aside0.mk A320
          clear A320
          have H' := Aside0.mk H
          clear H
          go_wp2_with (first | ((with_reducible refine gate_callee (f := 59) rfl ?_); refine goesL_ (some 74) rfl rfl Try.func59 (by kernel_rfl) rfl #[.int .i64 a0, .int .i64 0, .int .i64 128] rfl (by (try simp only [List.map_toArray, List.map_cons, List.map_nil]); first | done | rfl | (simp only [List.length_drop, List.length_take]; rfl)) ?_; (with_reducible refine (spec_l01In.calls a0 0 128 true _ A30.out).mono ?_); rintro e w' ⟨rfl, ⟨nd, rfl⟩⟩; refine ⟨_, rfl, ?_⟩) | (go_at_call 59; (with_reducible refine (spec_l01In.calls x7_2 0 128 t342 _ A32.out).mono ?_); rintro e w' ⟨rfl, ⟨nd, rfl⟩⟩))
          go_meet
          case rel => exact ⟨_, (!t342), (by first | rfl | (simp; done) | (simp [*]; done)), H', ⟨by have := HJ2.out; first | omega | exact Nat.le_refl _⟩, ⟨by (with_reducible repeat (first | apply Kd.R_alloc | apply Kd.R_drewN | apply Kd.R_drew)); exact HO_5.out⟩, ⟨by (with_reducible repeat (first | refine blk_drewN ?_ _ | refine blk_drew ?_ | refine blk_alloc ?_ _)); exact BK337.out⟩, ⟨by repeat (first | (with_reducible first | exact HB.out | apply below_alloc | apply pw_below_drewN | apply below_drew1 | refine below_set ?_ GE337.out) | exact HB.out)⟩⟩
        · replace c31 := Bool.eq_false_iff.mpr c31
          subst c31
          have H1 : (spec_TouchedBy.j2 kj2 y338 x6_2 x7_2 true) = some r := by rw [if_neg (show ¬ (false = true) by decide)] at H; exact H
          clear H
          have H := H1
          clear H1
          have H' := Aside0.mk H
          clear H
          go_wp2_with (first | ((with_reducible refine gate_callee (f := 59) rfl ?_); refine goesL_ (some 74) rfl rfl Try.func59 (by kernel_rfl) rfl #[.int .i64 a0, .int .i64 0, .int .i64 128] rfl (by (try simp only [List.map_toArray, List.map_cons, List.map_nil]); first | done | rfl | (simp only [List.length_drop, List.length_take]; rfl)) ?_; (with_reducible refine (spec_l01In.calls a0 0 128 false _ A30.out).mono ?_); rintro e w' ⟨rfl, ⟨nd, rfl⟩⟩; refine ⟨_, rfl, ?_⟩))
          go_meet
          case rel => exact ⟨_, (true), (by first | rfl | (simp; done) | (simp [*]; done)), H', ⟨by have := HJ2.out; first | omega | exact Nat.le_refl _⟩, ⟨by (with_reducible repeat (first | apply Kd.R_alloc | apply Kd.R_drewN | apply Kd.R_drew)); exact HO_5.out⟩, ⟨by (with_reducible repeat (first | refine blk_drewN ?_ _ | refine blk_drew ?_ | refine blk_alloc ?_ _)); exact BK337.out⟩, ⟨by repeat (first | (with_reducible first | exact HB.out | apply below_alloc | apply pw_below_drewN | apply below_drew1 | refine below_set ?_ GE337.out) | exact HB.out)⟩⟩
      case rest =>
        clear HC29
        try clear c1
        try clear c2
        try clear p2
        try clear c3
        try clear c5
        try clear p6
        try clear c8
        try clear c8b0
        try clear c8b1
        try clear c10
        try clear c10b0
        try clear c10b1
        try clear c12
        try clear c12b0
        try clear c15
        try clear c16
        try clear c16b0
        try clear c19
        try clear c19b0
        try clear c19b1
        try clear c20
        try clear c20b0
        try clear c20b1
        try clear c22
        try clear c22b0
        try clear c23
        try clear c23b0
        try clear c24
        try clear c24b0
        try clear c31
        try clear hcz11_0
        try clear hcz11_1
        try clear hcz11_2
        try clear hcz11_3
        try clear hcz11_4
        try clear hcz11_5
        try clear hcz13_0
        try clear hcz13_1
        try clear hcz13_2
        try clear hcz13_3
        try clear hcz13_4
        try clear hcz13_5
        try clear hcz14_0
        try clear hcz14_1
        try clear hcz14_2
        try clear hcz14_3
        try clear hcz14_4
        try clear hcz14_5
        try clear hcz17_0
        try clear hcz17_1
        try clear hcz17_2
        try clear hcz17_3
        try clear hcz17_4
        try clear hcz17_5
        try clear hcz18_0
        try clear hcz18_1
        try clear hcz18_2
        try clear hcz18_3
        try clear hcz18_4
        try clear hcz18_5
        try clear hcz21_0
        try clear hcz21_1
        try clear hcz21_2
        try clear hcz21_3
        try clear hcz21_4
        try clear hcz21_5
        try clear hcz25_0
        try clear hcz25_1
        try clear hcz25_2
        try clear hcz25_3
        try clear hcz25_4
        try clear hcz25_5
        try clear hcz26_0
        try clear hcz26_1
        try clear hcz26_2
        try clear hcz26_3
        try clear hcz26_4
        try clear hcz26_5
        try clear hcz27_0
        try clear hcz27_1
        try clear hcz27_2
        try clear hcz27_3
        try clear hcz27_4
        try clear hcz27_5
        try clear hcz28_0
        try clear hcz28_1
        try clear hcz28_2
        try clear hcz28_3
        try clear hcz28_4
        try clear hcz28_5
        try clear hcz7_0
        try clear hcz7_1
        try clear hcz7_2
        try clear hcz7_3
        try clear hcz7_4
        try clear hcz7_5
        try clear hfz11_0
        try clear hfz11_1
        try clear hfz11_2
        try clear hfz11_3
        try clear hfz11_4
        try clear hfz11_5
        try clear hfz13_0
        try clear hfz13_1
        try clear hfz13_2
        try clear hfz13_3
        try clear hfz13_4
        try clear hfz13_5
        try clear hfz14_0
        try clear hfz14_1
        try clear hfz14_2
        try clear hfz14_3
        try clear hfz14_4
        try clear hfz14_5
        try clear hfz17_0
        try clear hfz17_1
        try clear hfz17_2
        try clear hfz17_3
        try clear hfz17_4
        try clear hfz17_5
        try clear hfz18_0
        try clear hfz18_1
        try clear hfz18_2
        try clear hfz18_3
        try clear hfz18_4
        try clear hfz18_5
        try clear hfz21_0
        try clear hfz21_1
        try clear hfz21_2
        try clear hfz21_3
        try clear hfz21_4
        try clear hfz21_5
        try clear hfz25_0
        try clear hfz25_1
        try clear hfz25_2
        try clear hfz25_3
        try clear hfz25_4
        try clear hfz25_5
        try clear hfz26_0
        try clear hfz26_1
        try clear hfz26_2
        try clear hfz26_3
        try clear hfz26_4
        try clear hfz26_5
        try clear hfz27_0
        try clear hfz27_1
        try clear hfz27_2
        try clear hfz27_3
        try clear hfz27_4
        try clear hfz27_5
        try clear hfz28_0
        try clear hfz28_1
        try clear hfz28_2
        try clear hfz28_3
        try clear hfz28_4
        try clear hfz28_5
        try clear hfz7_0
        try clear hfz7_1
        try clear hfz7_2
        try clear hfz7_3
        try clear hfz7_4
        try clear hfz7_5
        try clear p2
        try clear p6
        obtain ⟨kq, x80_28, rfl, HA, HJ28, HO_5, BK337, HB⟩ := hcut
        cases kq with
        | zero => exact absurd HA.out (by simp [spec_TouchedBy.j2])
        | succ kj28 =>
          have H := HA.out
          clear HA
          simp only [spec_TouchedBy.j2] at H
          by_cases c33 : x80_28 = true
          · subst c33
            have H1 : (some y338) = some r := by rw [if_pos rfl] at H; exact H
            clear H
            have H := H1
            clear H1
            obtain rfl := Option.some.inj H
            go_wp2
            go_ret
            exact ⟨_, by first | rfl | (simp [errW_none, errW_some] <;> rfl) | (simp [*, errW_none, errW_some] <;> rfl), by (with_reducible repeat (first | apply Kd.R_alloc | apply Kd.R_drewN | apply Kd.R_drew)); exact HO_5.out, by repeat (first | (with_reducible first | exact HB.out | apply below_alloc | apply pw_below_drewN | apply below_drew1 | refine below_set ?_ GE337.out) | exact HB.out)⟩
          · replace c33 := Bool.eq_false_iff.mpr c33
            subst c33
            have H1 : (spec_TouchedBy.l0 kj28 y338 x6_2 x7_2 0) = some r := by rw [if_neg (show ¬ (false = true) by decide)] at H; exact H
            clear H
            have H := H1
            clear H1
            have H' := Aside0.mk H
            clear H
            go_wp2
            go_loopg [5, 8] kj28 (fun kq v5 v8 w' => ∃ (x5_3 : List Int) (x8_3 : Int), v8 = .int .i64 x8_3 ∧ Aside0 (spec_TouchedBy.l0 kq x5_3 x6_2 x7_2 x8_3 = some r) ∧ Aside0 (kq ≤ kj28) ∧ Aside0 (Kd.R (Kd.int .i64) 3 w' w.heap.size (fun _ => True) v5 x5_3) ∧ Aside0 (w'.heap[gb337]? = some (.cells #[.int .i64 a1_0, .string a1_1, .string a1_2, .int .i64 a1_3, .int .i64 a1_4, .string a1_5] 61 (0, 0))) ∧ Aside0 (Below w.heap.size w w'))
            case atStart => exact ⟨(y338), (0), (by first | rfl | (simp; done) | (simp [*]; done)), H', ⟨Nat.le_refl _⟩, ⟨by (with_reducible repeat (first | apply Kd.R_alloc | apply Kd.R_drewN | apply Kd.R_drew)); exact HO_5.out⟩, ⟨by (with_reducible repeat (first | refine blk_drewN ?_ _ | refine blk_drew ?_ | refine blk_alloc ?_ _)); exact BK337.out⟩, ⟨by repeat (first | (with_reducible first | exact HB.out | apply below_alloc | apply pw_below_drewN | apply below_drew1 | refine below_set ?_ GE337.out) | exact HB.out)⟩⟩
            case round =>
              clear H'
              try clear c1
              try clear c2
              try clear p2
              try clear c3
              try clear c5
              try clear p6
              try clear c8
              try clear c8b0
              try clear c8b1
              try clear c10
              try clear c10b0
              try clear c10b1
              try clear c12
              try clear c12b0
              try clear c15
              try clear c16
              try clear c16b0
              try clear c19
              try clear c19b0
              try clear c19b1
              try clear c20
              try clear c20b0
              try clear c20b1
              try clear c22
              try clear c22b0
              try clear c23
              try clear c23b0
              try clear c24
              try clear c24b0
              try clear c31
              try clear c33
              try clear hcz11_0
              try clear hcz11_1
              try clear hcz11_2
              try clear hcz11_3
              try clear hcz11_4
              try clear hcz11_5
              try clear hcz13_0
              try clear hcz13_1
              try clear hcz13_2
              try clear hcz13_3
              try clear hcz13_4
              try clear hcz13_5
              try clear hcz14_0
              try clear hcz14_1
              try clear hcz14_2
              try clear hcz14_3
              try clear hcz14_4
              try clear hcz14_5
              try clear hcz17_0
              try clear hcz17_1
              try clear hcz17_2
              try clear hcz17_3
              try clear hcz17_4
              try clear hcz17_5
              try clear hcz18_0
              try clear hcz18_1
              try clear hcz18_2
              try clear hcz18_3
              try clear hcz18_4
              try clear hcz18_5
              try clear hcz21_0
              try clear hcz21_1
              try clear hcz21_2
              try clear hcz21_3
              try clear hcz21_4
              try clear hcz21_5
              try clear hcz25_0
              try clear hcz25_1
              try clear hcz25_2
              try clear hcz25_3
              try clear hcz25_4
              try clear hcz25_5
              try clear hcz26_0
              try clear hcz26_1
              try clear hcz26_2
              try clear hcz26_3
              try clear hcz26_4
              try clear hcz26_5
              try clear hcz27_0
              try clear hcz27_1
              try clear hcz27_2
              try clear hcz27_3
              try clear hcz27_4
              try clear hcz27_5
              try clear hcz28_0
              try clear hcz28_1
              try clear hcz28_2
              try clear hcz28_3
              try clear hcz28_4
              try clear hcz28_5
              try clear hcz7_0
              try clear hcz7_1
              try clear hcz7_2
              try clear hcz7_3
              try clear hcz7_4
              try clear hcz7_5
              try clear hfz11_0
              try clear hfz11_1
              try clear hfz11_2
              try clear hfz11_3
              try clear hfz11_4
              try clear hfz11_5
              try clear hfz13_0
              try clear hfz13_1
              try clear hfz13_2
              try clear hfz13_3
              try clear hfz13_4
              try clear hfz13_5
              try clear hfz14_0
              try clear hfz14_1
              try clear hfz14_2
              try clear hfz14_3
              try clear hfz14_4
              try clear hfz14_5
              try clear hfz17_0
              try clear hfz17_1
              try clear hfz17_2
              try clear hfz17_3
              try clear hfz17_4
              try clear hfz17_5
              try clear hfz18_0
              try clear hfz18_1
              try clear hfz18_2
              try clear hfz18_3
              try clear hfz18_4
              try clear hfz18_5
              try clear hfz21_0
              try clear hfz21_1
              try clear hfz21_2
              try clear hfz21_3
              try clear hfz21_4
              try clear hfz21_5
              try clear hfz25_0
              try clear hfz25_1
              try clear hfz25_2
              try clear hfz25_3
              try clear hfz25_4
              try clear hfz25_5
              try clear hfz26_0
              try clear hfz26_1
              try clear hfz26_2
              try clear hfz26_3
              try clear hfz26_4
              try clear hfz26_5
              try clear hfz27_0
              try clear hfz27_1
              try clear hfz27_2
              try clear hfz27_3
              try clear hfz27_4
              try clear hfz27_5
              try clear hfz28_0
              try clear hfz28_1
              try clear hfz28_2
              try clear hfz28_3
              try clear hfz28_4
              try clear hfz28_5
              try clear hfz7_0
              try clear hfz7_1
              try clear hfz7_2
              try clear hfz7_3
              try clear hfz7_4
              try clear hfz7_5
              try clear p2
              try clear p6
              obtain ⟨x5_3, x8_3, rfl, HA, HK3, HO_5, BK337, HB⟩ := hrel
              cases gk with
              | zero => exact absurd HA.out (by simp [spec_TouchedBy.l0])
              | succ k3 =>
                have H := HA.out
                clear HA
                simp only [spec_TouchedBy.l0] at H
                by_cases c34 : x8_3 < 4
                · rw [if_pos c34] at H
                  have c34b0 : decide (x8_3 < 4) = true := decide_eq_true c34
                  clear c34
                  by_cases c35 : (wrap64 (x8_3 * 32)) < x7_2
                  · rw [if_pos c35] at H
                    have c35b0 : decide ((wrap64 (x8_3 * 32)) < x7_2) = true := decide_eq_true c35
                    clear c35
                    by_cases c36 : (wrap64 ((wrap64 (x8_3 + 1)) * 32)) > x6_2
                    · rw [if_pos c36] at H
                      have c36b0 : decide (x6_2 < (wrap64 ((wrap64 (x8_3 + 1)) * 32))) = true := decide_eq_true c36
                      clear c36
                      by_cases c37 : x5_3.length < 17592186044416
                      · rw [if_pos c37] at H
                        have LMc37 := Aside0.mk c37
                        clear c37
                        obtain ⟨y343, hy343⟩ : ∃ y_ : List Int, y_ = (x5_3 ++ [x8_3]) := ⟨_, rfl⟩
                        replace H : (spec_TouchedBy.l0 k3 y343 x6_2 x7_2 (wrap64 (x8_3 + 1))) = some r := by first | (rw [hy343]; with_reducible exact H) | (have H2_ := (Option.bind_some _ _).symm.trans H; rw [hy343]; with_reducible exact H2_) | (have H2_ := (Option.bind_some _ _).symm.trans H; with_reducible exact H2_) | with_reducible exact H | (rw [hy343]; exact H) | exact H
                        have Ny343 := Aside0.mk hy343
                        clear hy343
                        have H' := Aside0.mk H
                        clear H
                        go_wp2_with (first | ((with_reducible refine gate_builtin (b := .append) (xs := #[.tmp 97, .tmp 99]) rfl ?_); (try (refine gate_guard (by rfl) ?_; dsimp only)); at_builtin; refine Kd.R_append (Kd.int .i64) (w0 := w) w.heap.size rfl (.tmp 97) (.tmp 99) 30 3 (.int .i64 0) 8 rfl Try.underlying30 info3 rfl (by decide) (by omega) u5 x5_3 x8_3 [.int .i64 x8_3] (fun _ => True) (fun _ => False) rfl rfl ?aP (fun _ hk => hk.elim) ?aF ?aO ?aB ?aS ?aL ?_; (case aP => exact rfl); (case aB => exact (by repeat (first | (with_reducible first | exact HB.out | apply below_alloc | apply pw_below_drewN | apply below_drew1 | refine below_set ?_ GE337.out) | exact HB.out))); (case aF => exact (fun _ _ => trivial)); (case aO => exact (by (with_reducible repeat (first | apply Kd.R_alloc | apply Kd.R_drewN | apply Kd.R_drew)); exact HO_5.out)); (case aS => exact (below_size (by repeat (first | (with_reducible first | exact HB.out | apply below_alloc | apply pw_below_drewN | apply below_drew1 | refine below_set ?_ GE337.out) | exact HB.out)))); (case aL => have := LMc37.out; omega); intro v344 w38 ho hb hg hat; rw [← Ny343.out] at ho; have n0_ := Aside0.mk (blk_grown (g := gb337) (o := .cells #[.int .i64 a1_0, .string a1_1, .string a1_2, .int .i64 a1_3, .int .i64 a1_4, .string a1_5] 61 (0, 0)) (by (with_reducible repeat (first | refine blk_drewN ?_ _ | refine blk_drew ?_ | refine blk_alloc ?_ _)); exact BK337.out) hg (Kd.R_ne HO_5.out BK337.out (by decide))); have n1_ := Aside0.mk (hb); have n2_ := Aside0.mk (ho); clear BK337; clear HB; clear HO_5; have BK337 := n0_; have HB := n1_; have HO345 := n2_; clear n0_ n1_ n2_; clear ho hb hg hat))
                        go_roundg k3
                        case measure => have := HJ2.out; have := HJ28.out; have := HK3.out; omega
                        case rel => exact ⟨(y343), (wrap64 (x8_3 + 1)), (by first | rfl | (simp; done) | (simp [*]; done)), H', ⟨by have := HJ2.out; have := HJ28.out; have := HK3.out; omega⟩, ⟨by (with_reducible repeat (first | apply Kd.R_alloc | apply Kd.R_drewN | apply Kd.R_drew)); exact HO345.out⟩, ⟨by (with_reducible repeat (first | refine blk_drewN ?_ _ | refine blk_drew ?_ | refine blk_alloc ?_ _)); exact BK337.out⟩, ⟨by repeat (first | (with_reducible first | exact HB.out | apply below_alloc | apply pw_below_drewN | apply below_drew1 | refine below_set ?_ GE337.out) | exact HB.out)⟩⟩
                      · rw [if_neg c37] at H
                        exact absurd H (by simp)
                    · rw [if_neg c36] at H
                      have c36b0 : decide (x6_2 < (wrap64 ((wrap64 (x8_3 + 1)) * 32))) = false := decide_eq_false c36
                      clear c36
                      have H' := Aside0.mk H
                      clear H
                      go_wp2
                      go_roundg k3
                      case measure => have := HJ2.out; have := HJ28.out; have := HK3.out; omega
                      case rel => exact ⟨(x5_3), (wrap64 (x8_3 + 1)), (by first | rfl | (simp; done) | (simp [*]; done)), H', ⟨by have := HJ2.out; have := HJ28.out; have := HK3.out; omega⟩, ⟨by (with_reducible repeat (first | apply Kd.R_alloc | apply Kd.R_drewN | apply Kd.R_drew)); exact HO_5.out⟩, ⟨by (with_reducible repeat (first | refine blk_drewN ?_ _ | refine blk_drew ?_ | refine blk_alloc ?_ _)); exact BK337.out⟩, ⟨by repeat (first | (with_reducible first | exact HB.out | apply below_alloc | apply pw_below_drewN | apply below_drew1 | refine below_set ?_ GE337.out) | exact HB.out)⟩⟩
                  · rw [if_neg c35] at H
                    have c35b0 : decide ((wrap64 (x8_3 * 32)) < x7_2) = false := decide_eq_false c35
                    clear c35
                    have H' := Aside0.mk H
                    clear H
                    go_wp2
                    go_roundg k3
                    case measure => have := HJ2.out; have := HJ28.out; have := HK3.out; omega
                    case rel => exact ⟨(x5_3), (wrap64 (x8_3 + 1)), (by first | rfl | (simp; done) | (simp [*]; done)), H', ⟨by have := HJ2.out; have := HJ28.out; have := HK3.out; omega⟩, ⟨by (with_reducible repeat (first | apply Kd.R_alloc | apply Kd.R_drewN | apply Kd.R_drew)); exact HO_5.out⟩, ⟨by (with_reducible repeat (first | refine blk_drewN ?_ _ | refine blk_drew ?_ | refine blk_alloc ?_ _)); exact BK337.out⟩, ⟨by repeat (first | (with_reducible first | exact HB.out | apply below_alloc | apply pw_below_drewN | apply below_drew1 | refine below_set ?_ GE337.out) | exact HB.out)⟩⟩
                · rw [if_neg c34] at H
                  have c34b0 : decide (x8_3 < 4) = false := decide_eq_false c34
                  clear c34
                  obtain rfl := Option.some.inj H
                  go_wp2
                  go_ret
                  exact ⟨_, by first | rfl | (simp [errW_none, errW_some] <;> rfl) | (simp [*, errW_none, errW_some] <;> rfl), by (with_reducible repeat (first | apply Kd.R_alloc | apply Kd.R_drewN | apply Kd.R_drew)); exact HO_5.out, by repeat (first | (with_reducible first | exact HB.out | apply below_alloc | apply pw_below_drewN | apply below_drew1 | refine below_set ?_ GE337.out) | exact HB.out)⟩

end Go.Proofs.Ytfgammfdaiicpaa.PFnTouched
