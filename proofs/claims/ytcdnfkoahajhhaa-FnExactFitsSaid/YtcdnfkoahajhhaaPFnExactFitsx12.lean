/- Contracts of Go functions, written by a program of ours over the print of the kit: each says that the call returns what the Lean function beside it computes. Conditions: as each theorem states them. -/
import Derived.Test.YtcdnfkoahajhhaaPkFnExactFits
import Derived.Test.YtcdnfkoahajhhaaPFnExactFitsx0
import Derived.Test.YtcdnfkoahajhhaaPFnExactFitsx9
import Derived.Test.YtcdnfkoahajhhaaPFnExactFitsx11
namespace Go.Proofs.Ytcdnfkoahajhhaa.PFnExactFits
open Go.RowKit Go.Proofs.YtcdnfkoahajhhaaW.PrintWords Go.Proofs.YtcdnfkoahajhhaaW.PrintLast Go.Proofs.YtcdnfkoahajhhaaW.PrintMore
attribute [local go_sem] max2_int min2_int max_two min_two max_three min_three max_four min_four   -- for this text's walks alone
set_option linter.unusedVariables false
set_option linter.unusedSimpArgs false

/-! ### impl_Fits: function 56 -/
mutual
def impl_Fits.l0 : Nat → Int → List (S49) → Int → Int → Int → List Int → List (S49) → List (S38) → Option (Bool)
 | 0, _, _, _, _, _, _, _, _ => none
 | k + 1, x5, x10, x11, x12, x296000, x296001, x296002, x297000 => if x12 < x11 then (if 0 ≤ x12 then (if x12 < (x10.length : Int) then (if x12 = 0 then (impl_Fits.j1 k x5 x12 x10 x11 x12 true x296000 x296001 x296002 x297000 ((rd_T49 x10 x12).f0) ((rd_T49 x10 x12).f1) ((rd_T49 x10 x12).f2) ((rd_T49 x10 x12).f3) ((rd_T49 x10 x12).f4) ((rd_T49 x10 x12).f5)) else (impl_Fits.j1 k x5 x12 x10 x11 x12 (((rd_T49 x10 x12).f0) == 0) x296000 x296001 x296002 x297000 ((rd_T49 x10 x12).f0) ((rd_T49 x10 x12).f1) ((rd_T49 x10 x12).f2) ((rd_T49 x10 x12).f3) ((rd_T49 x10 x12).f4) ((rd_T49 x10 x12).f5))) else (none)) else (none)) else (some ((x297000.length : Int) == x5))
def impl_Fits.j1 : Nat → Int → Int → List (S49) → Int → Int → Bool → Int → List Int → List (S49) → List (S38) → Int → Int → Int → ByteArray → List (S170) → List (S59) → Option (Bool)
 | 0, _, _, _, _, _, _, _, _, _, _, _, _, _, _, _, _ => none
 | k + 1, x5, x6, x10, x11, x12, x23, x296000, x296001, x296002, x297000, x299000, x299001, x299002, x299003, x299004, x299005 => if x23 = true then (impl_Fits.l0 k x5 x10 x11 (wrap64 (x12 + 1)) x296000 x296001 x296002 x297000) else ((impl_PathTo.f k x296000 x296001 x296002 x6).bind fun t299 => ((impl_ItemAt.f x297000 t299).bind fun t300 => (if t300 < 0 then (some false) else (if 0 ≤ t300 then (if t300 < (x297000.length : Int) then (if (((rd_T38 x297000 t300).f1) != (x299000 == 2)) = true then (some false) else (if x299000 = 1 then (if (((rd_T38 x297000 t300).f2).size : Int) = x299001 then (impl_Fits.l0 k (wrap64 (x5 + 1)) x10 x11 (wrap64 (x12 + 1)) x296000 x296001 x296002 x297000) else (some false)) else (impl_Fits.l0 k (wrap64 (x5 + 1)) x10 x11 (wrap64 (x12 + 1)) x296000 x296001 x296002 x297000))) else (none)) else (none)))))
end
def impl_Fits.f (k : Nat) (a0_0 : Int) (l0_1 : List Int) (l0_2 : List (S49)) (l1_0 : List (S38)) : Option (Bool) := impl_Fits.l0 k 0 l0_2 (l0_2.length : Int) 0 a0_0 l0_1 l0_2 l1_0
theorem impl_Fits.mono_l : ∀ k, (∀ y0 y1 y2 y3 y4 y5 y6 y7, LeO (impl_Fits.l0 k y0 y1 y2 y3 y4 y5 y6 y7) (impl_Fits.l0 (k + 1) y0 y1 y2 y3 y4 y5 y6 y7)) ∧ (∀ y0 y1 y2 y3 y4 y5 y6 y7 y8 y9 y10 y11 y12 y13 y14 y15, LeO (impl_Fits.j1 k y0 y1 y2 y3 y4 y5 y6 y7 y8 y9 y10 y11 y12 y13 y14 y15) (impl_Fits.j1 (k + 1) y0 y1 y2 y3 y4 y5 y6 y7 y8 y9 y10 y11 y12 y13 y14 y15))
 | 0 => ⟨fun _ _ _ _ _ _ _ _ r h => by simp [impl_Fits.l0] at h, fun _ _ _ _ _ _ _ _ _ _ _ _ _ _ _ _ r h => by simp [impl_Fits.j1] at h⟩
 | k + 1 => by
  obtain ⟨ih0, ih1⟩ := impl_Fits.mono_l k
  refine ⟨?_, ?_⟩
  ·intro y0 y1 y2 y3 y4 y5 y6 y7
   unfold impl_Fits.l0
   repeat' first
   | (with_reducible exact ih0 _ _ _ _ _ _ _ _)
   | (with_reducible exact ih1 _ _ _ _ _ _ _ _ _ _ _ _ _ _ _ _)
   | (with_reducible exact impl_PathTo.mono _ _ _ _ _)
   | (with_reducible exact LeO.refl _)
   | (with_reducible exact LeO.none _)
   | (with_reducible refine LeO.ite ?_ ?_)
   | (with_reducible refine LeO.bind ?_ (fun _ => ?_))
   | exact ih0 _ _ _ _ _ _ _ _
   | exact ih1 _ _ _ _ _ _ _ _ _ _ _ _ _ _ _ _
   | exact impl_PathTo.mono _ _ _ _ _
   | exact LeO.none _
   | refine LeO.ite ?_ ?_
   | refine LeO.bind ?_ (fun _ => ?_)
  ·intro y0 y1 y2 y3 y4 y5 y6 y7 y8 y9 y10 y11 y12 y13 y14 y15
   unfold impl_Fits.j1
   repeat' first
   | (with_reducible exact ih0 _ _ _ _ _ _ _ _)
   | (with_reducible exact ih1 _ _ _ _ _ _ _ _ _ _ _ _ _ _ _ _)
   | (with_reducible exact impl_PathTo.mono _ _ _ _ _)
   | (with_reducible exact LeO.refl _)
   | (with_reducible exact LeO.none _)
   | (with_reducible refine LeO.ite ?_ ?_)
   | (with_reducible refine LeO.bind ?_ (fun _ => ?_))
   | exact ih0 _ _ _ _ _ _ _ _
   | exact ih1 _ _ _ _ _ _ _ _ _ _ _ _ _ _ _ _
   | exact impl_PathTo.mono _ _ _ _ _
   | exact LeO.none _
   | refine LeO.ite ?_ ?_
   | refine LeO.bind ?_ (fun _ => ?_)
theorem impl_Fits.mono : ∀ a0 a1 a2 a3 k, LeO (impl_Fits.f k a0 a1 a2 a3) (impl_Fits.f (k + 1) a0 a1 a2 a3) := by
 intro a0 a1 a2 a3 k
 obtain ⟨ih0, ih1⟩ := impl_Fits.mono_l k
 unfold impl_Fits.f
 repeat' first
   | (with_reducible exact ih0 _ _ _ _ _ _ _ _)
   | (with_reducible exact ih1 _ _ _ _ _ _ _ _ _ _ _ _ _ _ _ _)
   | (with_reducible exact impl_PathTo.mono _ _ _ _ _)
   | (with_reducible exact LeO.refl _)
   | (with_reducible exact LeO.none _)
   | (with_reducible refine LeO.ite ?_ ?_)
   | (with_reducible refine LeO.bind ?_ (fun _ => ?_))
   | exact ih0 _ _ _ _ _ _ _ _
   | exact ih1 _ _ _ _ _ _ _ _ _ _ _ _ _ _ _ _
   | exact impl_PathTo.mono _ _ _ _ _
   | exact LeO.none _
   | refine LeO.ite ?_ ?_
   | refine LeO.bind ?_ (fun _ => ?_)
def impl_Fits.T8 : Bool × List (List Nat × List Nat) := (true, [([], []), ([0], [0]), ([1], [1]), ([2], [2]), ([3, 2], [2, 3]), ([2], [2]), ([4, 5, 2], [2, 4, 5]), ([6, 2], [2, 6]), ([7, 2], [2, 7]), ([2], [2]), ([9, 2], [2, 9]), ([10, 2], [2, 10]), ([8, 11, 2], [2, 8, 11]), ([2, 12], [2, 12]), ([13, 2], [13]), ([14], [14]), ([15, 14], [14, 15]), ([16, 14], [14, 16]), ([17, 14, 14], [14, 17]), ([18], [18]), ([19, 18], [18, 19]), ([18], [18]), ([20, 21, 18], [18, 20, 21]), ([22, 18], [18, 22]), ([23, 18], [18, 23]), ([24, 18], [18, 24]), ([18], [18]), ([26, 18], [18, 26]), ([25, 27, 18], [18, 25, 27]), ([18, 28, 14], [14, 18, 28]), ([14, 29], [14, 29])])
def impl_Fits.B8 : List Nat := [0, 1, 3, 7, 15, 7, 63, 127, 255, 7, 519, 1543, 4095, 8191, 16383, 32767, 65535, 131071, 262143, 524287, 1048575, 524287, 4194303, 8388607, 16777215, 33554431, 524287, 67633151, 268435455, 536870911, 1073741823]
theorem impl_Fits.tab8 : rtab .any (opsOf Try.f56 8) = impl_Fits.T8 := by kernel_rfl
theorem impl_Fits.bits8 : waitsOk impl_Fits.T8.2 impl_Fits.B8 = true := by kernel_rfl
set_option maxHeartbeats 8000000 in
set_option maxRecDepth 100000 in
theorem impl_Fits.calls (k : Nat) (a0_0 : Int) (A0_1 : Option Addr) (c0_1 : Nat) (l0_1 : List Int) (A0_2 : Option Addr) (c0_2 : Nat) (l0_2 : List (S49)) (A1_0 : Option Addr) (c1_0 : Nat) (l1_0 : List (S38)) (r : Bool) (w : World) (hr0_1 : Kd.C (Kd.int .i64) w A0_1 l0_1.length l0_1) (hc0_1 : l0_1.length ≤ c0_1) (hr0_2 : Kd.C k49 w A0_2 l0_2.length l0_2) (hc0_2 : l0_2.length ≤ c0_2) (hr1_0 : Kd.C k38 w A1_0 l1_0.length l1_0) (hc1_0 : l1_0.length ≤ c1_0) (h : impl_Fits.f k a0_0 l0_1 l0_2 l1_0 = some r) :
  Calls Try.prog 56 #[.agg #[.int .i64 a0_0, .slice A0_1 l0_1.length c0_1, .slice A0_2 l0_2.length c0_2], .agg #[.slice A1_0 l1_0.length c1_0]] w fun e w' => e = .returned (.bool r) ∧ Below w.heap.size w w' := by
 have hu69 := Try.underlying69
 have hu28 := Try.underlying28
 have hu49 := Try.underlying49
 have HR0_1 := Aside0.mk hr0_1
 have HC0_1 := Aside0.mk hc0_1
 clear hr0_1 hc0_1
 have HR0_2 := Aside0.mk hr0_2
 have HC0_2 := Aside0.mk hc0_2
 clear hr0_2 hc0_2
 have HR1_0 := Aside0.mk hr1_0
 have HC1_0 := Aside0.mk hc1_0
 clear hr1_0 hc1_0
 have HB := Aside0.mk (Below.refl w.heap.size w)
 have H : (impl_Fits.l0 k 0 l0_2 (l0_2.length : Int) 0 a0_0 l0_1 l0_2 l1_0) = some r := h
 clear h
 have H' := Aside0.mk H
 clear H
 go_enter Try.func56, Try.ntmps56
 go_wp2_with (first | ((with_reducible refine gate_dst (N := 2) rfl ?_); (try (refine gate_guard (by rfl) ?_; dsimp only)); refine box_event ?hg (N := 2) ?hd (cs := #[.int .i64 a0_0, .slice A0_1 l0_1.length c0_1, .slice A0_2 l0_2.length c0_2]) (t := 69) ?hr ?_; (case hd => rfl); (case hg => rfl); (case hr => first | (go_simp; done) | (go_simp; rfl)); intro gb295 hg w3 hbox hb; have n0_ := Aside0.mk (below_step tq_0 hb); have n1_ := Aside0.mk (hbox); have n2_ := Aside0.mk (gb_ hg tq_0); have n3_ := Aside0.mk (gb_ hg tq_0); clear HB; have HB := n0_; have BK295 := n1_; have GW295 := n2_; have GE295 := n3_; clear n0_ n1_ n2_ n3_; clear hb hbox hg) | ((with_reducible refine gate_dst (N := 3) rfl ?_); (try (refine gate_guard (by rfl) ?_; dsimp only)); refine box_event ?hg (N := 3) ?hd (cs := #[.slice A1_0 l1_0.length c1_0]) (t := 28) ?hr ?_; (case hd => rfl); (case hg => rfl); (case hr => first | (go_simp; done) | (go_simp; rfl)); intro gb296 hg w4 hbox hb; have n0_ := Aside0.mk (blk_below tq_33 hb); have n1_ := Aside0.mk (below_step tq_95 hb); have n2_ := Aside0.mk (hbox); have n3_ := Aside0.mk (gb_ hg tq_95); have n4_ := Aside0.mk (gb_ hg tq_95); have n5_ := Aside0.mk (ltne_ hg (blk_lt tq_33)); have n6_ := Aside0.mk (gtne_ hg (blk_lt tq_33)); clear BK295 HB; have BK295 := n0_; have HB := n1_; have BK296 := n2_; have GW296 := n3_; have GE296 := n4_; have NB295_296 := n5_; have NB296_295 := n6_; clear n0_ n1_ n2_ n3_ n4_ n5_ n6_; clear hb hbox hg; have hnb5 := NB295_296.out; have hnc5 := NB296_295.out; have hcz6_0 := bc_ BK295.out 0; have hcz6_1 := bc_ BK295.out 1; have hcz6_2 := bc_ BK295.out 2; have hfz6_0 := blk_frozen BK295.out 0; have hfz6_1 := blk_frozen BK295.out 1; have hfz6_2 := blk_frozen BK295.out 2))
 go_loopg [5, 12] k (fun kq v5 v12 w' => ∃ (x5_1 : Int) (x12_1 : Int), v5 = .int .i64 x5_1 ∧ v12 = .int .i64 x12_1 ∧ Aside0 (impl_Fits.l0 kq x5_1 l0_2 (l0_2.length : Int) x12_1 a0_0 l0_1 l0_2 l1_0 = some r) ∧ Aside0 (kq ≤ k) ∧ Aside0 (w'.heap[gb295]? = some (.cells #[.int .i64 a0_0, (.slice A0_1 l0_1.length c0_1), (.slice A0_2 l0_2.length c0_2)] 69 (0, 0))) ∧ Aside0 (w'.heap[gb296]? = some (.cells #[(.slice A1_0 l1_0.length c1_0)] 28 (0, 0))) ∧ Aside0 (Below w.heap.size w w'))
 case atStart => exact ⟨(0), (0), tq_11, tq_11, H', ⟨Nat.le_refl _⟩, ⟨by (with_reducible repeat (first | refine blk_drewN ?_ _ | refine blk_drew ?_ | refine blk_alloc ?_ _)); exact BK295.out⟩, ⟨by (with_reducible repeat (first | refine blk_drewN ?_ _ | refine blk_drew ?_ | refine blk_alloc ?_ _)); exact BK296.out⟩, ⟨by repeat (first | (with_reducible first | exact HB.out | apply below_alloc | apply pw_below_drewN | apply below_drew1 | refine below_set ?_ GE295.out | refine below_set ?_ GE296.out) | exact HB.out)⟩⟩
 case round =>
  clear H'
  try clear c1
  try clear p2
  try clear c5
  try clear hcz6_0
  try clear hcz6_1
  try clear hcz6_2
  try clear hfz6_0
  try clear hfz6_1
  try clear hfz6_2
  obtain ⟨x5_1, x12_1, rfl, rfl, HA, HK1, BK295, BK296, HB⟩ := hrel
  cases gk with
  | zero => exact absurd HA.out (by simp [impl_Fits.l0])
  | succ k1 =>
   have H := HA.out
   clear HA
   simp only [impl_Fits.l0] at H
   by_cases c7 : x12_1 < (l0_2.length : Int)
   ·rw [if_pos c7] at H
    have c7b0 : decide (x12_1 < (l0_2.length : Int)) = true := decide_eq_true c7
    clear c7
    by_cases c8 : 0 ≤ x12_1
    ·rw [if_pos c8] at H
     have c8b0 : decide (0 ≤ x12_1) = true := decide_eq_true c8
     clear c8
     by_cases c9 : x12_1 < (l0_2.length : Int)
     ·rw [if_pos c9] at H
      have c9b0 : decide (x12_1 < (l0_2.length : Int)) = true := decide_eq_true c9
      clear c9
      have HC10 := Aside0.mk H
      clear H
      have p297 : 0 ≤ (x12_1 : Int) := of_decide_eq_true tq_4
      have q297 : x12_1 < (l0_2.length : Int) := of_decide_eq_true tq_4
      obtain ⟨ad297, A297_4, c297_4, A297_5, c297_5, e297, hx297_0, hx297_1, hx297_2, hx297_3, hx297_4, hx297_5, hl297_4, hi297_4, hl297_5, hi297_5⟩ := at_T49 HR0_2.out x12_1 p297 q297
      cases e297
      replace hx297_0 := hx_ HB.out hx297_0
      replace hx297_1 := hx_ HB.out hx297_1
      replace hx297_2 := hx_ HB.out hx297_2
      replace hx297_3 := hx_ HB.out hx297_3
      replace hx297_4 := hx_ HB.out hx297_4
      replace hx297_5 := hx_ HB.out hx297_5
      have HR297_4 := Aside0.mk hi297_4
      have HC297_4 := Aside0.mk hl297_4
      clear hi297_4 hl297_4
      have HR297_5 := Aside0.mk hi297_5
      have HC297_5 := Aside0.mk hl297_5
      clear hi297_5 hl297_5
      replace p297 := eq_true p297
      replace q297 := eq_true q297
      go_upto_region 5 with (first | ((with_reducible refine gate_dst (N := 7) rfl ?_); (try (refine gate_guard (by rfl) ?_; dsimp only)); refine box_event ?hg (N := 7) ?hd (cs := #[.int .i64 0, .int .i64 0, .int .i64 0, .string (⟨#[]⟩ : ByteArray), .slice none 0 0, .slice none 0 0]) (t := 49) ?hr ?_; (case hd => rfl); (case hg => rfl); (case hr => first | (go_simp; done) | (go_simp; rfl)); intro gb298 hg w11 hbox hb; have n0_ := Aside0.mk (blk_below tq_33 hb); have n1_ := Aside0.mk (blk_below tq_39 hb); have n2_ := Aside0.mk (below_step tq_85 hb); have n3_ := Aside0.mk (hbox); have n4_ := Aside0.mk (gb_ hg tq_85); have n5_ := Aside0.mk (gb_ hg tq_85); have n6_ := Aside0.mk (ltne_ hg (blk_lt tq_33)); have n7_ := Aside0.mk (gtne_ hg (blk_lt tq_33)); have n8_ := Aside0.mk (ltne_ hg (blk_lt tq_39)); have n9_ := Aside0.mk (gtne_ hg (blk_lt tq_39)); clear BK295 BK296 HB; have BK295 := n0_; have BK296 := n1_; have HB := n2_; have BK298 := n3_; have GW298 := n4_; have GE298 := n5_; have NB295_298 := n6_; have NB298_295 := n7_; have NB296_298 := n8_; have NB298_296 := n9_; clear n0_ n1_ n2_ n3_ n4_ n5_ n6_ n7_ n8_ n9_; clear hb hbox hg; have hnb12 := NB298_295.out; have hnc12 := NB295_298.out; have hnb13 := NB298_296.out; have hnc13 := NB296_298.out; have hcz14_0 := bc_ BK298.out 0; have hcz14_1 := bc_ BK298.out 1; have hcz14_2 := bc_ BK298.out 2; have hcz14_3 := bc_ BK298.out 3; have hcz14_4 := bc_ BK298.out 4; have hcz14_5 := bc_ BK298.out 5; have hfz14_0 := blk_frozen BK298.out 0; have hfz14_1 := blk_frozen BK298.out 1; have hfz14_2 := blk_frozen BK298.out 2; have hfz14_3 := blk_frozen BK298.out 3; have hfz14_4 := blk_frozen BK298.out 4; have hfz14_5 := blk_frozen BK298.out 5))
      (try simp only [Act.put, List.setIfInBounds_toArray, List.set_cons_zero, List.set_cons_succ])
      go_cut [23] (fun v23 wc => ∃ (kq : Nat) (x23_9 : Bool), v23 = .bool x23_9 ∧ Aside0 (impl_Fits.j1 kq x5_1 x12_1 l0_2 (l0_2.length : Int) x12_1 x23_9 a0_0 l0_1 l0_2 l1_0 ((rd_T49 l0_2 x12_1).f0) ((rd_T49 l0_2 x12_1).f1) ((rd_T49 l0_2 x12_1).f2) ((rd_T49 l0_2 x12_1).f3) ((rd_T49 l0_2 x12_1).f4) ((rd_T49 l0_2 x12_1).f5) = some r) ∧ Aside0 (kq ≤ k1) ∧ Aside0 (wc.heap[gb295]? = some (.cells #[.int .i64 a0_0, (.slice A0_1 l0_1.length c0_1), (.slice (some ad297) l0_2.length c0_2)] 69 (0, 0))) ∧ Aside0 (wc.heap[gb296]? = some (.cells #[(.slice A1_0 l1_0.length c1_0)] 28 (0, 0))) ∧ Aside0 (wc.heap[gb298]? = some (.cells #[.int .i64 ((rd_T49 l0_2 x12_1).f0), .int .i64 ((rd_T49 l0_2 x12_1).f1), .int .i64 ((rd_T49 l0_2 x12_1).f2), .string ((rd_T49 l0_2 x12_1).f3), (.slice A297_4 ((rd_T49 l0_2 x12_1).f4).length c297_4), (.slice A297_5 ((rd_T49 l0_2 x12_1).f5).length c297_5)] 49 (0, 0))) ∧ Aside0 (Below w.heap.size w wc))
      case first =>
       have H := HC10.out
       clear HC10
       by_cases c15 : x12_1 = 0
       ·rw [if_pos c15] at H
        have c15b0 : (x12_1 == 0) = true := beq_iff_eq.mpr c15
        have c15b1 : (x12_1 != 0) = false := bne_eq_false_iff_eq.mpr c15
        clear c15
        (first | rw [c15b0] | (simp only [i64_w, i32_w]; rw [c15b0]) | skip)
        have H' := Aside0.mk H
        clear H
        go_wp2
        go_meet
        case rel => exact ⟨_, (true), tq_11, H', ⟨by have := HK1.out; first | omega | exact Nat.le_refl _⟩, ⟨by (with_reducible repeat (first | refine blk_drewN ?_ _ | refine blk_drew ?_ | refine blk_alloc ?_ _)); refine blk_far ?_ NB295_298.out _; (with_reducible repeat (first | refine blk_drewN ?_ _ | refine blk_drew ?_ | refine blk_alloc ?_ _)); refine blk_far ?_ NB295_298.out _; (with_reducible repeat (first | refine blk_drewN ?_ _ | refine blk_drew ?_ | refine blk_alloc ?_ _)); refine blk_far ?_ NB295_298.out _; (with_reducible repeat (first | refine blk_drewN ?_ _ | refine blk_drew ?_ | refine blk_alloc ?_ _)); refine blk_far ?_ NB295_298.out _; (with_reducible repeat (first | refine blk_drewN ?_ _ | refine blk_drew ?_ | refine blk_alloc ?_ _)); refine blk_far ?_ NB295_298.out _; (with_reducible repeat (first | refine blk_drewN ?_ _ | refine blk_drew ?_ | refine blk_alloc ?_ _)); refine blk_far ?_ NB295_298.out _; (with_reducible repeat (first | refine blk_drewN ?_ _ | refine blk_drew ?_ | refine blk_alloc ?_ _)); exact BK295.out⟩, ⟨by (with_reducible repeat (first | refine blk_drewN ?_ _ | refine blk_drew ?_ | refine blk_alloc ?_ _)); refine blk_far ?_ NB296_298.out _; (with_reducible repeat (first | refine blk_drewN ?_ _ | refine blk_drew ?_ | refine blk_alloc ?_ _)); refine blk_far ?_ NB296_298.out _; (with_reducible repeat (first | refine blk_drewN ?_ _ | refine blk_drew ?_ | refine blk_alloc ?_ _)); refine blk_far ?_ NB296_298.out _; (with_reducible repeat (first | refine blk_drewN ?_ _ | refine blk_drew ?_ | refine blk_alloc ?_ _)); refine blk_far ?_ NB296_298.out _; (with_reducible repeat (first | refine blk_drewN ?_ _ | refine blk_drew ?_ | refine blk_alloc ?_ _)); refine blk_far ?_ NB296_298.out _; (with_reducible repeat (first | refine blk_drewN ?_ _ | refine blk_drew ?_ | refine blk_alloc ?_ _)); refine blk_far ?_ NB296_298.out _; (with_reducible repeat (first | refine blk_drewN ?_ _ | refine blk_drew ?_ | refine blk_alloc ?_ _)); exact BK296.out⟩, ⟨by (with_reducible repeat (first | refine blk_drewN ?_ _ | refine blk_drew ?_ | refine blk_alloc ?_ _)); refine blk_put (cs := #[.int .i64 ((rd_T49 l0_2 x12_1).f0), .int .i64 ((rd_T49 l0_2 x12_1).f1), .int .i64 ((rd_T49 l0_2 x12_1).f2), .string ((rd_T49 l0_2 x12_1).f3), .slice A297_4 ((rd_T49 l0_2 x12_1).f4).length c297_4, .slice none 0 0]) ?_ 5 _ rfl; (with_reducible repeat (first | refine blk_drewN ?_ _ | refine blk_drew ?_ | refine blk_alloc ?_ _)); refine blk_put (cs := #[.int .i64 ((rd_T49 l0_2 x12_1).f0), .int .i64 ((rd_T49 l0_2 x12_1).f1), .int .i64 ((rd_T49 l0_2 x12_1).f2), .string ((rd_T49 l0_2 x12_1).f3), .slice none 0 0, .slice none 0 0]) ?_ 4 _ rfl; (with_reducible repeat (first | refine blk_drewN ?_ _ | refine blk_drew ?_ | refine blk_alloc ?_ _)); refine blk_put (cs := #[.int .i64 ((rd_T49 l0_2 x12_1).f0), .int .i64 ((rd_T49 l0_2 x12_1).f1), .int .i64 ((rd_T49 l0_2 x12_1).f2), .string (⟨#[]⟩ : ByteArray), .slice none 0 0, .slice none 0 0]) ?_ 3 _ rfl; (with_reducible repeat (first | refine blk_drewN ?_ _ | refine blk_drew ?_ | refine blk_alloc ?_ _)); refine blk_put (cs := #[.int .i64 ((rd_T49 l0_2 x12_1).f0), .int .i64 ((rd_T49 l0_2 x12_1).f1), .int .i64 0, .string (⟨#[]⟩ : ByteArray), .slice none 0 0, .slice none 0 0]) ?_ 2 _ rfl; (with_reducible repeat (first | refine blk_drewN ?_ _ | refine blk_drew ?_ | refine blk_alloc ?_ _)); refine blk_put (cs := #[.int .i64 ((rd_T49 l0_2 x12_1).f0), .int .i64 0, .int .i64 0, .string (⟨#[]⟩ : ByteArray), .slice none 0 0, .slice none 0 0]) ?_ 1 _ rfl; (with_reducible repeat (first | refine blk_drewN ?_ _ | refine blk_drew ?_ | refine blk_alloc ?_ _)); refine blk_put (cs := #[.int .i64 0, .int .i64 0, .int .i64 0, .string (⟨#[]⟩ : ByteArray), .slice none 0 0, .slice none 0 0]) ?_ 0 _ rfl; (with_reducible repeat (first | refine blk_drewN ?_ _ | refine blk_drew ?_ | refine blk_alloc ?_ _)); exact BK298.out⟩, ⟨by repeat (first | (with_reducible first | exact HB.out | apply below_alloc | apply pw_below_drewN | apply below_drew1 | refine below_set ?_ GE295.out | refine below_set ?_ GE296.out | refine below_set ?_ GE298.out) | exact HB.out)⟩⟩
       ·rw [if_neg c15] at H
        have c15b0 : (x12_1 == 0) = false := beq_eq_false_iff_ne.mpr c15
        have c15b1 : (x12_1 != 0) = true := bne_iff_ne.mpr c15
        (first | rw [c15b0] | (simp only [i64_w, i32_w]; rw [c15b0]) | skip)
        have H' := Aside0.mk H
        clear H
        have hnb16 := NB298_295.out
        have hnc16 := NB295_298.out
        have hnb17 := NB298_296.out
        have hnc17 := NB296_298.out
        have hcz18_0 := bc_ BK298.out 0
        have hcz18_1 := bc_ BK298.out 1
        have hcz18_2 := bc_ BK298.out 2
        have hcz18_3 := bc_ BK298.out 3
        have hcz18_4 := bc_ BK298.out 4
        have hcz18_5 := bc_ BK298.out 5
        have hfz18_0 := blk_frozen BK298.out 0
        have hfz18_1 := blk_frozen BK298.out 1
        have hfz18_2 := blk_frozen BK298.out 2
        have hfz18_3 := blk_frozen BK298.out 3
        have hfz18_4 := blk_frozen BK298.out 4
        have hfz18_5 := blk_frozen BK298.out 5
        go_wp2
        go_meet
        case rel => exact ⟨_, ((((rd_T49 l0_2 x12_1).f0) == 0)), tq_11, H', ⟨by have := HK1.out; first | omega | exact Nat.le_refl _⟩, ⟨by (with_reducible repeat (first | refine blk_drewN ?_ _ | refine blk_drew ?_ | refine blk_alloc ?_ _)); refine blk_far ?_ NB295_298.out _; (with_reducible repeat (first | refine blk_drewN ?_ _ | refine blk_drew ?_ | refine blk_alloc ?_ _)); refine blk_far ?_ NB295_298.out _; (with_reducible repeat (first | refine blk_drewN ?_ _ | refine blk_drew ?_ | refine blk_alloc ?_ _)); refine blk_far ?_ NB295_298.out _; (with_reducible repeat (first | refine blk_drewN ?_ _ | refine blk_drew ?_ | refine blk_alloc ?_ _)); refine blk_far ?_ NB295_298.out _; (with_reducible repeat (first | refine blk_drewN ?_ _ | refine blk_drew ?_ | refine blk_alloc ?_ _)); refine blk_far ?_ NB295_298.out _; (with_reducible repeat (first | refine blk_drewN ?_ _ | refine blk_drew ?_ | refine blk_alloc ?_ _)); refine blk_far ?_ NB295_298.out _; (with_reducible repeat (first | refine blk_drewN ?_ _ | refine blk_drew ?_ | refine blk_alloc ?_ _)); exact BK295.out⟩, ⟨by (with_reducible repeat (first | refine blk_drewN ?_ _ | refine blk_drew ?_ | refine blk_alloc ?_ _)); refine blk_far ?_ NB296_298.out _; (with_reducible repeat (first | refine blk_drewN ?_ _ | refine blk_drew ?_ | refine blk_alloc ?_ _)); refine blk_far ?_ NB296_298.out _; (with_reducible repeat (first | refine blk_drewN ?_ _ | refine blk_drew ?_ | refine blk_alloc ?_ _)); refine blk_far ?_ NB296_298.out _; (with_reducible repeat (first | refine blk_drewN ?_ _ | refine blk_drew ?_ | refine blk_alloc ?_ _)); refine blk_far ?_ NB296_298.out _; (with_reducible repeat (first | refine blk_drewN ?_ _ | refine blk_drew ?_ | refine blk_alloc ?_ _)); refine blk_far ?_ NB296_298.out _; (with_reducible repeat (first | refine blk_drewN ?_ _ | refine blk_drew ?_ | refine blk_alloc ?_ _)); refine blk_far ?_ NB296_298.out _; (with_reducible repeat (first | refine blk_drewN ?_ _ | refine blk_drew ?_ | refine blk_alloc ?_ _)); exact BK296.out⟩, ⟨by (with_reducible repeat (first | refine blk_drewN ?_ _ | refine blk_drew ?_ | refine blk_alloc ?_ _)); refine blk_put (cs := #[.int .i64 ((rd_T49 l0_2 x12_1).f0), .int .i64 ((rd_T49 l0_2 x12_1).f1), .int .i64 ((rd_T49 l0_2 x12_1).f2), .string ((rd_T49 l0_2 x12_1).f3), .slice A297_4 ((rd_T49 l0_2 x12_1).f4).length c297_4, .slice none 0 0]) ?_ 5 _ rfl; (with_reducible repeat (first | refine blk_drewN ?_ _ | refine blk_drew ?_ | refine blk_alloc ?_ _)); refine blk_put (cs := #[.int .i64 ((rd_T49 l0_2 x12_1).f0), .int .i64 ((rd_T49 l0_2 x12_1).f1), .int .i64 ((rd_T49 l0_2 x12_1).f2), .string ((rd_T49 l0_2 x12_1).f3), .slice none 0 0, .slice none 0 0]) ?_ 4 _ rfl; (with_reducible repeat (first | refine blk_drewN ?_ _ | refine blk_drew ?_ | refine blk_alloc ?_ _)); refine blk_put (cs := #[.int .i64 ((rd_T49 l0_2 x12_1).f0), .int .i64 ((rd_T49 l0_2 x12_1).f1), .int .i64 ((rd_T49 l0_2 x12_1).f2), .string (⟨#[]⟩ : ByteArray), .slice none 0 0, .slice none 0 0]) ?_ 3 _ rfl; (with_reducible repeat (first | refine blk_drewN ?_ _ | refine blk_drew ?_ | refine blk_alloc ?_ _)); refine blk_put (cs := #[.int .i64 ((rd_T49 l0_2 x12_1).f0), .int .i64 ((rd_T49 l0_2 x12_1).f1), .int .i64 0, .string (⟨#[]⟩ : ByteArray), .slice none 0 0, .slice none 0 0]) ?_ 2 _ rfl; (with_reducible repeat (first | refine blk_drewN ?_ _ | refine blk_drew ?_ | refine blk_alloc ?_ _)); refine blk_put (cs := #[.int .i64 ((rd_T49 l0_2 x12_1).f0), .int .i64 0, .int .i64 0, .string (⟨#[]⟩ : ByteArray), .slice none 0 0, .slice none 0 0]) ?_ 1 _ rfl; (with_reducible repeat (first | refine blk_drewN ?_ _ | refine blk_drew ?_ | refine blk_alloc ?_ _)); refine blk_put (cs := #[.int .i64 0, .int .i64 0, .int .i64 0, .string (⟨#[]⟩ : ByteArray), .slice none 0 0, .slice none 0 0]) ?_ 0 _ rfl; (with_reducible repeat (first | refine blk_drewN ?_ _ | refine blk_drew ?_ | refine blk_alloc ?_ _)); exact BK298.out⟩, ⟨by repeat (first | (with_reducible first | exact HB.out | apply below_alloc | apply pw_below_drewN | apply below_drew1 | refine below_set ?_ GE295.out | refine below_set ?_ GE296.out | refine below_set ?_ GE298.out) | exact HB.out)⟩⟩
      case rest =>
       clear HC10
       try clear c1
       try clear c2
       try clear p2
       try clear q2
       try clear hx2
       try clear c5
       try clear c7
       try clear c7b0
       try clear c8
       try clear c8b0
       try clear c9
       try clear c9b0
       try clear c12
       try clear c13
       try clear c15
       try clear c15b0
       try clear c15b1
       try clear c16
       try clear c17
       try clear hcz14_0
       try clear hcz14_1
       try clear hcz14_2
       try clear hcz14_3
       try clear hcz14_4
       try clear hcz14_5
       try clear hcz18_0
       try clear hcz18_1
       try clear hcz18_2
       try clear hcz18_3
       try clear hcz18_4
       try clear hcz18_5
       try clear hcz6_0
       try clear hcz6_1
       try clear hcz6_2
       try clear hfz14_0
       try clear hfz14_1
       try clear hfz14_2
       try clear hfz14_3
       try clear hfz14_4
       try clear hfz14_5
       try clear hfz18_0
       try clear hfz18_1
       try clear hfz18_2
       try clear hfz18_3
       try clear hfz18_4
       try clear hfz18_5
       try clear hfz6_0
       try clear hfz6_1
       try clear hfz6_2
       try clear hx297_0
       try clear hx297_1
       try clear hx297_2
       try clear hx297_3
       try clear hx297_4
       try clear hx297_5
       try clear p2
       try clear p297
       try clear q297
       obtain ⟨kq, x23_9, rfl, HA, HJ9, BK295, BK296, BK298, HB⟩ := hcut
       cases kq with
       | zero => exact absurd HA.out (by simp [impl_Fits.j1])
       | succ kj9 =>
        have H := HA.out
        clear HA
        simp only [impl_Fits.j1] at H
        by_cases c19 : x23_9 = true
        ·subst c19
         have H1 : (impl_Fits.l0 kj9 x5_1 l0_2 (l0_2.length : Int) (wrap64 (x12_1 + 1)) a0_0 l0_1 l0_2 l1_0) = some r := by rw [if_pos rfl] at H; exact H
         clear H
         have H := H1
         clear H1
         have H' := Aside0.mk H
         clear H
         go_wp2
         go_roundg kj9
         case measure => have := HK1.out; have := HJ9.out; omega
         case rel => exact ⟨(x5_1), (wrap64 (x12_1 + 1)), tq_11, tq_11, H', ⟨by have := HK1.out; have := HJ9.out; omega⟩, ⟨by (with_reducible repeat (first | refine blk_drewN ?_ _ | refine blk_drew ?_ | refine blk_alloc ?_ _)); exact BK295.out⟩, ⟨by (with_reducible repeat (first | refine blk_drewN ?_ _ | refine blk_drew ?_ | refine blk_alloc ?_ _)); exact BK296.out⟩, ⟨by repeat (first | (with_reducible first | exact HB.out | apply below_alloc | apply pw_below_drewN | apply below_drew1 | refine below_set ?_ GE295.out | refine below_set ?_ GE296.out | refine below_set ?_ GE298.out) | exact HB.out)⟩⟩
        ·replace c19 := Bool.eq_false_iff.mpr c19
         subst c19
         have H1 : ((impl_PathTo.f kj9 a0_0 l0_1 l0_2 x12_1).bind fun t299 => ((impl_ItemAt.f l1_0 t299).bind fun t300 => (if t300 < 0 then (some false) else (if 0 ≤ t300 then (if t300 < (l1_0.length : Int) then (if (((rd_T38 l1_0 t300).f1) != (((rd_T49 l0_2 x12_1).f0) == 2)) = true then (some false) else (if ((rd_T49 l0_2 x12_1).f0) = 1 then (if (((rd_T38 l1_0 t300).f2).size : Int) = ((rd_T49 l0_2 x12_1).f1) then (impl_Fits.l0 kj9 (wrap64 (x5_1 + 1)) l0_2 (l0_2.length : Int) (wrap64 (x12_1 + 1)) a0_0 l0_1 l0_2 l1_0) else (some false)) else (impl_Fits.l0 kj9 (wrap64 (x5_1 + 1)) l0_2 (l0_2.length : Int) (wrap64 (x12_1 + 1)) a0_0 l0_1 l0_2 l1_0))) else (none)) else (none))))) = some r := by rw [if_neg (show ¬ (false = true) by decide)] at H; exact H
         clear H
         have H := H1
         clear H1
         replace H := Option.bind_eq_some_iff.mp H
         obtain ⟨t299, A200, H⟩ := H
         replace H : ((impl_ItemAt.f l1_0 t299).bind fun t300 => (if t300 < 0 then (some false) else (if 0 ≤ t300 then (if t300 < (l1_0.length : Int) then (if (((rd_T38 l1_0 t300).f1) != (((rd_T49 l0_2 x12_1).f0) == 2)) = true then (some false) else (if ((rd_T49 l0_2 x12_1).f0) = 1 then (if (((rd_T38 l1_0 t300).f2).size : Int) = ((rd_T49 l0_2 x12_1).f1) then (impl_Fits.l0 kj9 (wrap64 (x5_1 + 1)) l0_2 (l0_2.length : Int) (wrap64 (x12_1 + 1)) a0_0 l0_1 l0_2 l1_0) else (some false)) else (impl_Fits.l0 kj9 (wrap64 (x5_1 + 1)) l0_2 (l0_2.length : Int) (wrap64 (x12_1 + 1)) a0_0 l0_1 l0_2 l1_0))) else (none)) else (none)))) = some r := H
         have A20 := Aside0.mk A200
         clear A200
         replace H := Option.bind_eq_some_iff.mp H
         obtain ⟨t300, A210, H⟩ := H
         replace H : (if t300 < 0 then (some false) else (if 0 ≤ t300 then (if t300 < (l1_0.length : Int) then (if (((rd_T38 l1_0 t300).f1) != (((rd_T49 l0_2 x12_1).f0) == 2)) = true then (some false) else (if ((rd_T49 l0_2 x12_1).f0) = 1 then (if (((rd_T38 l1_0 t300).f2).size : Int) = ((rd_T49 l0_2 x12_1).f1) then (impl_Fits.l0 kj9 (wrap64 (x5_1 + 1)) l0_2 (l0_2.length : Int) (wrap64 (x12_1 + 1)) a0_0 l0_1 l0_2 l1_0) else (some false)) else (impl_Fits.l0 kj9 (wrap64 (x5_1 + 1)) l0_2 (l0_2.length : Int) (wrap64 (x12_1 + 1)) a0_0 l0_1 l0_2 l1_0))) else (none)) else (none))) = some r := H
         have A21 := Aside0.mk A210
         clear A210
         by_cases c22 : t300 < 0
         ·rw [if_pos c22] at H
          have c22b0 : decide (t300 < 0) = true := decide_eq_true c22
          clear c22
          obtain rfl := Option.some.inj H
          try go_wp2
          have n0_ := Aside0.mk (blk_drew BK295.out)
          have n1_ := Aside0.mk (blk_drew BK296.out)
          have n2_ := Aside0.mk (blk_drew BK298.out)
          have n3_ := Aside0.mk (below_drew1 HB.out)
          clear BK295 BK296 BK298 HB
          have BK295 := n0_
          have BK296 := n1_
          have BK298 := n2_
          have HB := n3_
          clear n0_ n1_ n2_ n3_
          refine start_ (n := 6) (S := fun w' => w'.cell? ⟨gb296, 0, none⟩ = some (.slice A1_0 l1_0.length c1_0) ∧ w'.cell? ⟨gb295, 0, none⟩ = some (.int .i64 a0_0) ∧ w'.cell? ⟨gb295, 1, none⟩ = some (.slice A0_1 l0_1.length c0_1) ∧ w'.cell? ⟨gb295, 2, none⟩ = some (.slice (some ad297) l0_2.length c0_2)) (ds := []) bq_0 (by kernel_rfl) rfl rfl ⟨(blk_cell BK296.out 0).trans rfl, (blk_cell BK295.out 0).trans rfl, (blk_cell BK295.out 1).trans rfl, (blk_cell BK295.out 2).trans rfl⟩ (fun hHeld => ?_)
          generalize wc.drew = w23 at BK295 BK296 BK298 HB hHeld ⊢
          refine yq_ (i := 2) (N := some 28) bq_6 (by kernel_rfl) ?_
          refine take_ (i := 0) (N := some 26) (v := ?_) (a' := ?_) bq_1 rfl rfl (by kernel_rfl) (fun _ _ _ h => h) (Or.inl ⟨by rfl, ?_⟩) hHeld ?_ ?_
          rotate_left
          ·rintro w' ⟨s0, s1, s2, s3⟩
           go_simp
           with_reducible rfl
          rotate_left
          ·simp only [Act.put, List.setIfInBounds_toArray, List.set_cons_zero, List.set_cons_succ, i64_w, i32_w]
           rfl
          refine take_ (i := 1) (N := some 27) (v := ?_) (a' := ?_) bq_2 rfl rfl (by kernel_rfl) (fun _ _ _ h => h) (Or.inl ⟨by rfl, ?_⟩) hHeld ?_ ?_
          rotate_left
          ·rintro w' ⟨s0, s1, s2, s3⟩
           go_simp
           with_reducible rfl
          rotate_left
          ·simp only [Act.put, List.setIfInBounds_toArray, List.set_cons_zero, List.set_cons_succ, i64_w, i32_w]
           rfl
          refine one_ (i := 3) (N := some 29) bq_3 rfl rfl (by kernel_rfl) (by decide) (fun K hK => ?_)
          refine goes_ Try.func136 (by kernel_rfl) rfl #[.agg #[.int .i64 a0_0, .slice A0_1 l0_1.length c0_1, .slice (some ad297) l0_2.length c0_2], .int .i64 x12_1] (by rfl) rfl rfl tq_1 ?_
          with_reducible refine (impl_PathTo.calls kj9 a0_0 _ _ l0_1 _ _ l0_2 x12_1 t299 _ ?side1 ?side2 ?side3 ?side4 A20.out).mono ?_
          (case side1 => exact tq_6)
          (case side2 => exact HC0_1.out)
          (case side3 => exact tq_7)
          (case side4 => exact HC0_2.out)
          rintro e w24 ⟨rfl, hb⟩
          refine ⟨_, rfl, ?_⟩
          have n0_ := Aside0.mk (blk_below tq_33 hb)
          have n1_ := Aside0.mk (blk_below tq_39 hb)
          have n2_ := Aside0.mk (blk_below tq_46 hb)
          have n3_ := Aside0.mk (below_step tq_27 hb)
          clear BK295 BK296 BK298 HB
          have BK295 := n0_
          have BK296 := n1_
          have BK298 := n2_
          have HB := n3_
          clear n0_ n1_ n2_ n3_
          (try clear hb)
          (try clear hb2)
          (try clear hk)
          (try clear hi)
          refine hK.out _ _ ⟨(blk_cell BK296.out 0).trans rfl, (blk_cell BK295.out 0).trans rfl, (blk_cell BK295.out 1).trans rfl, (blk_cell BK295.out 2).trans rfl⟩ (fun hHeld => ?_)
          clear hK K
          refine norm_ (a' := ?_) ?_ ?_
          rotate_left
          ·show Act.put _ (some 29) _ = _
           simp only [Act.put, List.setIfInBounds_toArray, List.set_cons_zero, List.set_cons_succ, i64_w, i32_w]
           rfl
          refine one_ (i := 4) (N := some 30) bq_4 rfl rfl (by kernel_rfl) (by decide) (fun K hK => ?_)
          refine goes_ Try.func44 (by kernel_rfl) rfl #[.agg #[.slice A1_0 l1_0.length c1_0], .string t299] (by rfl) rfl rfl tq_1 ?_
          with_reducible refine (impl_ItemAt.calls _ _ l1_0 t299 t300 _ ?side1 ?side2 A21.out).mono ?_
          (case side1 => exact tq_14)
          (case side2 => exact HC1_0.out)
          rintro e w25 ⟨rfl, hb⟩
          refine ⟨_, rfl, ?_⟩
          have n0_ := Aside0.mk (blk_below tq_33 hb)
          have n1_ := Aside0.mk (blk_below tq_39 hb)
          have n2_ := Aside0.mk (blk_below tq_46 hb)
          have n3_ := Aside0.mk (below_step tq_27 hb)
          clear BK295 BK296 BK298 HB
          have BK295 := n0_
          have BK296 := n1_
          have BK298 := n2_
          have HB := n3_
          clear n0_ n1_ n2_ n3_
          (try clear hb)
          (try clear hb2)
          (try clear hk)
          (try clear hi)
          refine hK.out _ _ ⟨(blk_cell BK296.out 0).trans rfl, (blk_cell BK295.out 0).trans rfl, (blk_cell BK295.out 1).trans rfl, (blk_cell BK295.out 2).trans rfl⟩ (fun hHeld => ?_)
          clear hK K
          refine norm_ (a' := ?_) ?_ ?_
          rotate_left
          ·show Act.put _ (some 30) _ = _
           simp only [Act.put, List.setIfInBounds_toArray, List.set_cons_zero, List.set_cons_succ, i64_w, i32_w]
           rfl
          refine yq_ (i := 5) (N := some 8) bq_5 (by kernel_rfl) ?_
          refine done_ (by kernel_rfl) ?_
          try go_wp2
          have n0_ := Aside0.mk (blk_drew BK295.out)
          have n1_ := Aside0.mk (blk_drew BK296.out)
          have n2_ := Aside0.mk (blk_drew BK298.out)
          have n3_ := Aside0.mk (below_drew1 HB.out)
          clear BK295 BK296 BK298 HB
          have BK295 := n0_
          have BK296 := n1_
          have BK298 := n2_
          have HB := n3_
          clear n0_ n1_ n2_ n3_
          refine start_ (n := 31) (S := fun w' => True) (ds := []) bq_7 (by kernel_rfl) rfl rfl trivial (fun hHeld => ?_); refine with_tabW impl_Fits.tab8 impl_Fits.bits8 (fun HT_ HW_ => ?_)
          generalize w25.drew = w26 at BK295 BK296 BK298 HB hHeld ⊢
          refine yq_ (i := 0) (N := some 31) bq_8 (any_of HT_.out (by kernel_rfl)) ?_
          refine yq_ (i := 1) (N := some 32) bq_9 (any_of HT_.out (by kernel_rfl)) ?_
          refine yq_ (i := 2) (N := some 33) bq_10 (any_of HT_.out (by kernel_rfl)) ?_
          refine uq_ (i := 3) (N := some 34) bq_11 (any_of HT_.out (by kernel_rfl)) ?_
          refine uq_ (i := 4) (N := some 35) bq_63 (any_of HT_.out (by kernel_rfl)) ?_
          refine uq_ (i := 5) (N := some 36) bq_64 (any_of HT_.out (by kernel_rfl)) ?_
          refine uq_ (i := 6) (N := some 37) bq_65 (any_of HT_.out (by kernel_rfl)) ?_
          refine uq_ (i := 7) (N := some 38) bq_66 (any_of HT_.out (by kernel_rfl)) ?_
          refine uq_ (i := 8) (N := some 39) bq_67 (any_of HT_.out (by kernel_rfl)) ?_
          refine uq_ (i := 9) (N := some 40) bq_12 (any_of HT_.out (by kernel_rfl)) ?_
          refine uq_ (i := 10) (N := some 41) bq_13 (any_of HT_.out (by kernel_rfl)) ?_
          refine uq_ (i := 11) (N := some 42) bq_14 (any_of HT_.out (by kernel_rfl)) ?_
          refine uq_ (i := 12) (N := some 43) bq_15 (any_of HT_.out (by kernel_rfl)) ?_
          refine yq_ (i := 13) (N := some 44) bq_16 (any_of HT_.out (by kernel_rfl)) ?_
          refine yq_ (i := 14) (N := some 45) bq_17 (any_of HT_.out (by kernel_rfl)) ?_
          refine uq_ (i := 15) (N := some 46) bq_18 (any_of HT_.out (by kernel_rfl)) ?_
          refine uq_ (i := 16) (N := some 47) bq_19 (any_of HT_.out (by kernel_rfl)) ?_
          refine uq_ (i := 17) (N := some 48) bq_20 (any_of HT_.out (by kernel_rfl)) ?_
          refine uq_ (i := 18) (N := some 49) bq_21 (any_of HT_.out (by kernel_rfl)) ?_
          refine uq_ (i := 19) (N := some 50) bq_22 (any_of HT_.out (by kernel_rfl)) ?_
          refine uq_ (i := 20) (N := some 51) bq_44 (any_of HT_.out (by kernel_rfl)) ?_
          refine uq_ (i := 21) (N := some 52) bq_45 (any_of HT_.out (by kernel_rfl)) ?_
          refine uq_ (i := 22) (N := some 53) bq_46 (any_of HT_.out (by kernel_rfl)) ?_
          refine uq_ (i := 23) (N := some 54) bq_47 (any_of HT_.out (by kernel_rfl)) ?_
          refine uq_ (i := 24) (N := some 55) bq_48 (any_of HT_.out (by kernel_rfl)) ?_
          refine uq_ (i := 25) (N := some 56) bq_49 (any_of HT_.out (by kernel_rfl)) ?_
          refine uq_ (i := 26) (N := some 57) bq_23 (any_of HT_.out (by kernel_rfl)) ?_
          refine uq_ (i := 27) (N := some 58) bq_24 (any_of HT_.out (by kernel_rfl)) ?_
          refine uq_ (i := 28) (N := some 59) bq_25 (any_of HT_.out (by kernel_rfl)) ?_
          refine uq_ (i := 29) (N := some 60) bq_26 (any_of HT_.out (by kernel_rfl)) ?_
          refine yq_ (i := 30) (N := some 61) bq_27 (any_of HT_.out (by kernel_rfl)) ?_
          refine done_ (done_of HT_.out (by kernel_rfl)) ?_
          try go_wp2
          go_ret
          exact ⟨by first | rfl | (simp [errW_none, errW_some] <;> rfl) | (simp [*, errW_none, errW_some] <;> rfl), by repeat (first | (with_reducible first | exact HB.out | apply below_alloc | apply pw_below_drewN | apply below_drew1 | refine below_set ?_ GE295.out | refine below_set ?_ GE296.out | refine below_set ?_ GE298.out) | exact HB.out)⟩
         ·rw [if_neg c22] at H
          have c22b0 : decide (t300 < 0) = false := decide_eq_false c22
          clear c22
          by_cases c27 : 0 ≤ t300
          ·rw [if_pos c27] at H
           have c27b0 : decide (0 ≤ t300) = true := decide_eq_true c27
           clear c27
           by_cases c28 : t300 < (l1_0.length : Int)
           ·rw [if_pos c28] at H
            have c28b0 : decide (t300 < (l1_0.length : Int)) = true := decide_eq_true c28
            clear c28
            by_cases c29 : (((rd_T38 l1_0 t300).f1) != (((rd_T49 l0_2 x12_1).f0) == 2)) = true
            ·rw [if_pos c29] at H
             have c29b0 : (((rd_T38 l1_0 t300).f1) != (((rd_T49 l0_2 x12_1).f0) == 2)) = true := c29
             (try (have c29b1 : decide (((rd_T38 l1_0 t300).f1) = (((rd_T49 l0_2 x12_1).f0) == 2)) = false := by simpa using c29))
             (try (have c29b2 : (((rd_T38 l1_0 t300).f1) == (((rd_T49 l0_2 x12_1).f0) == 2)) = false := by simpa using c29))
             (try (have c29b3 : ¬ (((rd_T38 l1_0 t300).f1) = (((rd_T49 l0_2 x12_1).f0) == 2)) := by simpa using c29))
             clear c29
             obtain rfl := Option.some.inj H
             try go_wp2
             have n0_ := Aside0.mk (blk_drew BK295.out)
             have n1_ := Aside0.mk (blk_drew BK296.out)
             have n2_ := Aside0.mk (blk_drew BK298.out)
             have n3_ := Aside0.mk (below_drew1 HB.out)
             clear BK295 BK296 BK298 HB
             have BK295 := n0_
             have BK296 := n1_
             have BK298 := n2_
             have HB := n3_
             clear n0_ n1_ n2_ n3_
             refine start_ (n := 6) (S := fun w' => w'.cell? ⟨gb296, 0, none⟩ = some (.slice A1_0 l1_0.length c1_0) ∧ w'.cell? ⟨gb295, 0, none⟩ = some (.int .i64 a0_0) ∧ w'.cell? ⟨gb295, 1, none⟩ = some (.slice A0_1 l0_1.length c0_1) ∧ w'.cell? ⟨gb295, 2, none⟩ = some (.slice (some ad297) l0_2.length c0_2)) (ds := []) bq_0 (by kernel_rfl) rfl rfl ⟨(blk_cell BK296.out 0).trans rfl, (blk_cell BK295.out 0).trans rfl, (blk_cell BK295.out 1).trans rfl, (blk_cell BK295.out 2).trans rfl⟩ (fun hHeld => ?_)
             generalize wc.drew = w30 at BK295 BK296 BK298 HB hHeld ⊢
             refine yq_ (i := 2) (N := some 28) bq_6 (by kernel_rfl) ?_
             refine take_ (i := 0) (N := some 26) (v := ?_) (a' := ?_) bq_1 rfl rfl (by kernel_rfl) (fun _ _ _ h => h) (Or.inl ⟨by rfl, ?_⟩) hHeld ?_ ?_
             rotate_left
             ·rintro w' ⟨s0, s1, s2, s3⟩
              go_simp
              with_reducible rfl
             rotate_left
             ·simp only [Act.put, List.setIfInBounds_toArray, List.set_cons_zero, List.set_cons_succ, i64_w, i32_w]
              rfl
             refine take_ (i := 1) (N := some 27) (v := ?_) (a' := ?_) bq_2 rfl rfl (by kernel_rfl) (fun _ _ _ h => h) (Or.inl ⟨by rfl, ?_⟩) hHeld ?_ ?_
             rotate_left
             ·rintro w' ⟨s0, s1, s2, s3⟩
              go_simp
              with_reducible rfl
             rotate_left
             ·simp only [Act.put, List.setIfInBounds_toArray, List.set_cons_zero, List.set_cons_succ, i64_w, i32_w]
              rfl
             refine one_ (i := 3) (N := some 29) bq_3 rfl rfl (by kernel_rfl) (by decide) (fun K hK => ?_)
             refine goes_ Try.func136 (by kernel_rfl) rfl #[.agg #[.int .i64 a0_0, .slice A0_1 l0_1.length c0_1, .slice (some ad297) l0_2.length c0_2], .int .i64 x12_1] (by rfl) rfl rfl tq_1 ?_
             with_reducible refine (impl_PathTo.calls kj9 a0_0 _ _ l0_1 _ _ l0_2 x12_1 t299 _ ?side1 ?side2 ?side3 ?side4 A20.out).mono ?_
             (case side1 => exact tq_6)
             (case side2 => exact HC0_1.out)
             (case side3 => exact tq_7)
             (case side4 => exact HC0_2.out)
             rintro e w31 ⟨rfl, hb⟩
             refine ⟨_, rfl, ?_⟩
             have n0_ := Aside0.mk (blk_below tq_33 hb)
             have n1_ := Aside0.mk (blk_below tq_39 hb)
             have n2_ := Aside0.mk (blk_below tq_46 hb)
             have n3_ := Aside0.mk (below_step tq_27 hb)
             clear BK295 BK296 BK298 HB
             have BK295 := n0_
             have BK296 := n1_
             have BK298 := n2_
             have HB := n3_
             clear n0_ n1_ n2_ n3_
             (try clear hb)
             (try clear hb2)
             (try clear hk)
             (try clear hi)
             refine hK.out _ _ ⟨(blk_cell BK296.out 0).trans rfl, (blk_cell BK295.out 0).trans rfl, (blk_cell BK295.out 1).trans rfl, (blk_cell BK295.out 2).trans rfl⟩ (fun hHeld => ?_)
             clear hK K
             refine norm_ (a' := ?_) ?_ ?_
             rotate_left
             ·show Act.put _ (some 29) _ = _
              simp only [Act.put, List.setIfInBounds_toArray, List.set_cons_zero, List.set_cons_succ, i64_w, i32_w]
              rfl
             refine one_ (i := 4) (N := some 30) bq_4 rfl rfl (by kernel_rfl) (by decide) (fun K hK => ?_)
             refine goes_ Try.func44 (by kernel_rfl) rfl #[.agg #[.slice A1_0 l1_0.length c1_0], .string t299] (by rfl) rfl rfl tq_1 ?_
             with_reducible refine (impl_ItemAt.calls _ _ l1_0 t299 t300 _ ?side1 ?side2 A21.out).mono ?_
             (case side1 => exact tq_14)
             (case side2 => exact HC1_0.out)
             rintro e w32 ⟨rfl, hb⟩
             refine ⟨_, rfl, ?_⟩
             have n0_ := Aside0.mk (blk_below tq_33 hb)
             have n1_ := Aside0.mk (blk_below tq_39 hb)
             have n2_ := Aside0.mk (blk_below tq_46 hb)
             have n3_ := Aside0.mk (below_step tq_27 hb)
             clear BK295 BK296 BK298 HB
             have BK295 := n0_
             have BK296 := n1_
             have BK298 := n2_
             have HB := n3_
             clear n0_ n1_ n2_ n3_
             (try clear hb)
             (try clear hb2)
             (try clear hk)
             (try clear hi)
             refine hK.out _ _ ⟨(blk_cell BK296.out 0).trans rfl, (blk_cell BK295.out 0).trans rfl, (blk_cell BK295.out 1).trans rfl, (blk_cell BK295.out 2).trans rfl⟩ (fun hHeld => ?_)
             clear hK K
             refine norm_ (a' := ?_) ?_ ?_
             rotate_left
             ·show Act.put _ (some 30) _ = _
              simp only [Act.put, List.setIfInBounds_toArray, List.set_cons_zero, List.set_cons_succ, i64_w, i32_w]
              rfl
             refine yq_ (i := 5) (N := some 8) bq_5 (by kernel_rfl) ?_
             refine done_ (by kernel_rfl) ?_
             try go_wp2
             have n0_ := Aside0.mk (blk_drew BK295.out)
             have n1_ := Aside0.mk (blk_drew BK296.out)
             have n2_ := Aside0.mk (blk_drew BK298.out)
             have n3_ := Aside0.mk (below_drew1 HB.out)
             clear BK295 BK296 BK298 HB
             have BK295 := n0_
             have BK296 := n1_
             have BK298 := n2_
             have HB := n3_
             clear n0_ n1_ n2_ n3_
             have p301 : 0 ≤ (t300 : Int) := of_decide_eq_true tq_4
             have q301 : t300 < (l1_0.length : Int) := of_decide_eq_true tq_4
             obtain ⟨ad301, e301, hx301_0, hx301_1, hx301_2⟩ := at_T38 HR1_0.out t300 p301 q301
             have hw301_2 := hx301_2
             have hw301_1 := hx301_1
             have hw301_0 := hx301_0
             cases e301
             replace hx301_0 := hx_ HB.out hx301_0
             replace hx301_1 := hx_ HB.out hx301_1
             replace hx301_2 := hx_ HB.out hx301_2
             replace p301 := eq_true p301
             replace q301 := eq_true q301
             refine start_ (n := 31) (S := fun w' => w'.cell? ⟨gb296, 0, none⟩ = some (.slice (some ad301) l1_0.length c1_0) ∧ w'.cell? ⟨gb298, 0, none⟩ = some (.int .i64 ((rd_T49 l0_2 x12_1).f0)) ∧ w'.cell? ⟨gb298, 1, none⟩ = some (.int .i64 ((rd_T49 l0_2 x12_1).f1)) ∧ w'.cell? ⟨gb298, 2, none⟩ = some (.int .i64 ((rd_T49 l0_2 x12_1).f2)) ∧ w'.cell? ⟨gb298, 3, none⟩ = some (.string ((rd_T49 l0_2 x12_1).f3)) ∧ w'.cell? ⟨gb298, 4, none⟩ = some (.slice A297_4 ((rd_T49 l0_2 x12_1).f4).length c297_4) ∧ w'.cell? ⟨gb298, 5, none⟩ = some (.slice A297_5 ((rd_T49 l0_2 x12_1).f5).length c297_5) ∧ w'.cell? (ad301.add ((t300).toNat * 3)) = some (.string ((rd_T38 l1_0 t300).f0)) ∧ w'.cell? ⟨(ad301.add ((t300).toNat * 3)).block, (ad301.add ((t300).toNat * 3)).off + 1, none⟩ = some (.bool ((rd_T38 l1_0 t300).f1)) ∧ w'.cell? ⟨(ad301.add ((t300).toNat * 3)).block, (ad301.add ((t300).toNat * 3)).off + 2, none⟩ = some (.string ((rd_T38 l1_0 t300).f2))) (ds := []) bq_7 (by kernel_rfl) rfl rfl ⟨(blk_cell BK296.out 0).trans rfl, (blk_cell BK298.out 0).trans rfl, (blk_cell BK298.out 1).trans rfl, (blk_cell BK298.out 2).trans rfl, (blk_cell BK298.out 3).trans rfl, (blk_cell BK298.out 4).trans rfl, (blk_cell BK298.out 5).trans rfl, ((HB.out.cell (World.block_lt_of_cell? w _ hw301_0)).trans hw301_0), ((HB.out.cell (World.block_lt_of_cell? w _ hw301_1)).trans hw301_1), ((HB.out.cell (World.block_lt_of_cell? w _ hw301_2)).trans hw301_2)⟩ (fun hHeld => ?_); refine with_tabW impl_Fits.tab8 impl_Fits.bits8 (fun HT_ HW_ => ?_)
             generalize w32.drew = w33 at BK295 BK296 BK298 HB hx301_0 hx301_1 hx301_2 hHeld ⊢
             refine yq_ (i := 0) (N := some 31) bq_8 (any_of HT_.out (by kernel_rfl)) ?_
             refine yq_ (i := 1) (N := some 32) bq_9 (any_of HT_.out (by kernel_rfl)) ?_
             refine yq_ (i := 2) (N := some 33) bq_10 (any_of HT_.out (by kernel_rfl)) ?_
             refine yq_ (i := 3) (N := some 34) bq_11 (any_of HT_.out (by kernel_rfl)) ?_
             refine yq_ (i := 5) (N := some 36) bq_39 (any_of HT_.out (by kernel_rfl)) ?_
             refine yq_ (i := 9) (N := some 40) bq_40 (any_of HT_.out (by kernel_rfl)) ?_
             refine take_ (i := 4) (N := some 35) (v := ?_) (a' := ?_) bq_41 rfl rfl (take_ofW HT_.out HW_.out (by kernel_rfl)) (fun _ _ _ h => h) (Or.inl ⟨by rfl, ?_⟩) hHeld ?_ ?_
             rotate_left
             ·rintro w' ⟨s0, s1, s2, s3, s4, s5, s6, s7, s8, s9⟩
              go_simp
              with_reducible rfl
             rotate_left
             ·simp only [Act.put, List.setIfInBounds_toArray, List.set_cons_zero, List.set_cons_succ, i64_w, i32_w]
              rfl
             refine yq_ (i := 6) (N := some 37) bq_42 (any_of HT_.out (by kernel_rfl)) ?_
             refine yq_ (i := 7) (N := some 38) bq_43 (any_of HT_.out (by kernel_rfl)) ?_
             refine take_ (i := 8) (N := some 39) (v := ?_) (a' := ?_) bq_12 rfl rfl (take_ofW HT_.out HW_.out (by kernel_rfl)) (fun _ _ _ h => h) (Or.inl ⟨by rfl, ?_⟩) hHeld ?_ ?_
             rotate_left
             ·rintro w' ⟨s0, s1, s2, s3, s4, s5, s6, s7, s8, s9⟩
              go_simp
              with_reducible rfl
             rotate_left
             ·simp only [Act.put, List.setIfInBounds_toArray, List.set_cons_zero, List.set_cons_succ, i64_w, i32_w]
              rfl
             refine take_ (i := 10) (N := some 41) (v := ?_) (a' := ?_) bq_13 rfl rfl (take_ofW HT_.out HW_.out (by kernel_rfl)) (fun _ _ _ h => h) (Or.inl ⟨by rfl, ?_⟩) hHeld ?_ ?_
             rotate_left
             ·rintro w' ⟨s0, s1, s2, s3, s4, s5, s6, s7, s8, s9⟩
              go_simp
              with_reducible rfl
             rotate_left
             ·simp only [Act.put, List.setIfInBounds_toArray, List.set_cons_zero, List.set_cons_succ, i64_w, i32_w]
              rfl
             refine yq_ (i := 11) (N := some 42) bq_14 (any_of HT_.out (by kernel_rfl)) ?_
             refine yq_ (i := 12) (N := some 43) bq_15 (any_of HT_.out (by kernel_rfl)) ?_
             refine yq_ (i := 13) (N := some 44) bq_16 (any_of HT_.out (by kernel_rfl)) ?_
             refine yq_ (i := 14) (N := some 45) bq_17 (any_of HT_.out (by kernel_rfl)) ?_
             refine uq_ (i := 15) (N := some 46) bq_18 (any_of HT_.out (by kernel_rfl)) ?_
             refine uq_ (i := 16) (N := some 47) bq_19 (any_of HT_.out (by kernel_rfl)) ?_
             refine uq_ (i := 17) (N := some 48) bq_20 (any_of HT_.out (by kernel_rfl)) ?_
             refine uq_ (i := 18) (N := some 49) bq_21 (any_of HT_.out (by kernel_rfl)) ?_
             refine uq_ (i := 19) (N := some 50) bq_22 (any_of HT_.out (by kernel_rfl)) ?_
             refine uq_ (i := 20) (N := some 51) bq_44 (any_of HT_.out (by kernel_rfl)) ?_
             refine uq_ (i := 21) (N := some 52) bq_45 (any_of HT_.out (by kernel_rfl)) ?_
             refine uq_ (i := 22) (N := some 53) bq_46 (any_of HT_.out (by kernel_rfl)) ?_
             refine uq_ (i := 23) (N := some 54) bq_47 (any_of HT_.out (by kernel_rfl)) ?_
             refine uq_ (i := 24) (N := some 55) bq_48 (any_of HT_.out (by kernel_rfl)) ?_
             refine uq_ (i := 25) (N := some 56) bq_49 (any_of HT_.out (by kernel_rfl)) ?_
             refine uq_ (i := 26) (N := some 57) bq_23 (any_of HT_.out (by kernel_rfl)) ?_
             refine uq_ (i := 27) (N := some 58) bq_24 (any_of HT_.out (by kernel_rfl)) ?_
             refine uq_ (i := 28) (N := some 59) bq_25 (any_of HT_.out (by kernel_rfl)) ?_
             refine uq_ (i := 29) (N := some 60) bq_26 (any_of HT_.out (by kernel_rfl)) ?_
             refine yq_ (i := 30) (N := some 61) bq_27 (any_of HT_.out (by kernel_rfl)) ?_
             refine done_ (done_of HT_.out (by kernel_rfl)) ?_
             try go_wp2
             go_ret
             exact ⟨by first | rfl | (simp [errW_none, errW_some] <;> rfl) | (simp [*, errW_none, errW_some] <;> rfl), by repeat (first | (with_reducible first | exact HB.out | apply below_alloc | apply pw_below_drewN | apply below_drew1 | refine below_set ?_ GE295.out | refine below_set ?_ GE296.out | refine below_set ?_ GE298.out) | exact HB.out)⟩
            ·rw [if_neg c29] at H
             have c29b0 : (((rd_T38 l1_0 t300).f1) != (((rd_T49 l0_2 x12_1).f0) == 2)) = false := by simpa using c29
             (try (have c29b1 : decide (((rd_T38 l1_0 t300).f1) = (((rd_T49 l0_2 x12_1).f0) == 2)) = true := by simpa using c29))
             (try (have c29b2 : (((rd_T38 l1_0 t300).f1) == (((rd_T49 l0_2 x12_1).f0) == 2)) = true := by simpa using c29))
             clear c29
             by_cases c34 : ((rd_T49 l0_2 x12_1).f0) = 1
             ·rw [if_pos c34] at H
              have c34b0 : (((rd_T49 l0_2 x12_1).f0) == 1) = true := beq_iff_eq.mpr c34
              have c34b1 : (((rd_T49 l0_2 x12_1).f0) != 1) = false := bne_eq_false_iff_eq.mpr c34
              clear c34
              by_cases c35 : (((rd_T38 l1_0 t300).f2).size : Int) = ((rd_T49 l0_2 x12_1).f1)
              ·rw [if_pos c35] at H
               have c35b0 : ((((rd_T38 l1_0 t300).f2).size : Int) == ((rd_T49 l0_2 x12_1).f1)) = true := beq_iff_eq.mpr c35
               have c35b1 : ((((rd_T38 l1_0 t300).f2).size : Int) != ((rd_T49 l0_2 x12_1).f1)) = false := bne_eq_false_iff_eq.mpr c35
               clear c35
               have H' := Aside0.mk H
               clear H
               try go_wp2
               have n0_ := Aside0.mk (blk_drew BK295.out)
               have n1_ := Aside0.mk (blk_drew BK296.out)
               have n2_ := Aside0.mk (blk_drew BK298.out)
               have n3_ := Aside0.mk (below_drew1 HB.out)
               clear BK295 BK296 BK298 HB
               have BK295 := n0_
               have BK296 := n1_
               have BK298 := n2_
               have HB := n3_
               clear n0_ n1_ n2_ n3_
               refine start_ (n := 6) (S := fun w' => w'.cell? ⟨gb296, 0, none⟩ = some (.slice A1_0 l1_0.length c1_0) ∧ w'.cell? ⟨gb295, 0, none⟩ = some (.int .i64 a0_0) ∧ w'.cell? ⟨gb295, 1, none⟩ = some (.slice A0_1 l0_1.length c0_1) ∧ w'.cell? ⟨gb295, 2, none⟩ = some (.slice (some ad297) l0_2.length c0_2)) (ds := []) bq_0 (by kernel_rfl) rfl rfl ⟨(blk_cell BK296.out 0).trans rfl, (blk_cell BK295.out 0).trans rfl, (blk_cell BK295.out 1).trans rfl, (blk_cell BK295.out 2).trans rfl⟩ (fun hHeld => ?_)
               generalize wc.drew = w36 at BK295 BK296 BK298 HB hHeld ⊢
               refine yq_ (i := 2) (N := some 28) bq_6 (by kernel_rfl) ?_
               refine take_ (i := 0) (N := some 26) (v := ?_) (a' := ?_) bq_1 rfl rfl (by kernel_rfl) (fun _ _ _ h => h) (Or.inl ⟨by rfl, ?_⟩) hHeld ?_ ?_
               rotate_left
               ·rintro w' ⟨s0, s1, s2, s3⟩
                go_simp
                with_reducible rfl
               rotate_left
               ·simp only [Act.put, List.setIfInBounds_toArray, List.set_cons_zero, List.set_cons_succ, i64_w, i32_w]
                rfl
               refine take_ (i := 1) (N := some 27) (v := ?_) (a' := ?_) bq_2 rfl rfl (by kernel_rfl) (fun _ _ _ h => h) (Or.inl ⟨by rfl, ?_⟩) hHeld ?_ ?_
               rotate_left
               ·rintro w' ⟨s0, s1, s2, s3⟩
                go_simp
                with_reducible rfl
               rotate_left
               ·simp only [Act.put, List.setIfInBounds_toArray, List.set_cons_zero, List.set_cons_succ, i64_w, i32_w]
                rfl
               refine one_ (i := 3) (N := some 29) bq_3 rfl rfl (by kernel_rfl) (by decide) (fun K hK => ?_)
               refine goes_ Try.func136 (by kernel_rfl) rfl #[.agg #[.int .i64 a0_0, .slice A0_1 l0_1.length c0_1, .slice (some ad297) l0_2.length c0_2], .int .i64 x12_1] (by rfl) rfl rfl tq_1 ?_
               with_reducible refine (impl_PathTo.calls kj9 a0_0 _ _ l0_1 _ _ l0_2 x12_1 t299 _ ?side1 ?side2 ?side3 ?side4 A20.out).mono ?_
               (case side1 => exact tq_6)
               (case side2 => exact HC0_1.out)
               (case side3 => exact tq_7)
               (case side4 => exact HC0_2.out)
               rintro e w37 ⟨rfl, hb⟩
               refine ⟨_, rfl, ?_⟩
               have n0_ := Aside0.mk (blk_below tq_33 hb)
               have n1_ := Aside0.mk (blk_below tq_39 hb)
               have n2_ := Aside0.mk (blk_below tq_46 hb)
               have n3_ := Aside0.mk (below_step tq_27 hb)
               clear BK295 BK296 BK298 HB
               have BK295 := n0_
               have BK296 := n1_
               have BK298 := n2_
               have HB := n3_
               clear n0_ n1_ n2_ n3_
               (try clear hb)
               (try clear hb2)
               (try clear hk)
               (try clear hi)
               refine hK.out _ _ ⟨(blk_cell BK296.out 0).trans rfl, (blk_cell BK295.out 0).trans rfl, (blk_cell BK295.out 1).trans rfl, (blk_cell BK295.out 2).trans rfl⟩ (fun hHeld => ?_)
               clear hK K
               refine norm_ (a' := ?_) ?_ ?_
               rotate_left
               ·show Act.put _ (some 29) _ = _
                simp only [Act.put, List.setIfInBounds_toArray, List.set_cons_zero, List.set_cons_succ, i64_w, i32_w]
                rfl
               refine one_ (i := 4) (N := some 30) bq_4 rfl rfl (by kernel_rfl) (by decide) (fun K hK => ?_)
               refine goes_ Try.func44 (by kernel_rfl) rfl #[.agg #[.slice A1_0 l1_0.length c1_0], .string t299] (by rfl) rfl rfl tq_1 ?_
               with_reducible refine (impl_ItemAt.calls _ _ l1_0 t299 t300 _ ?side1 ?side2 A21.out).mono ?_
               (case side1 => exact tq_14)
               (case side2 => exact HC1_0.out)
               rintro e w38 ⟨rfl, hb⟩
               refine ⟨_, rfl, ?_⟩
               have n0_ := Aside0.mk (blk_below tq_33 hb)
               have n1_ := Aside0.mk (blk_below tq_39 hb)
               have n2_ := Aside0.mk (blk_below tq_46 hb)
               have n3_ := Aside0.mk (below_step tq_27 hb)
               clear BK295 BK296 BK298 HB
               have BK295 := n0_
               have BK296 := n1_
               have BK298 := n2_
               have HB := n3_
               clear n0_ n1_ n2_ n3_
               (try clear hb)
               (try clear hb2)
               (try clear hk)
               (try clear hi)
               refine hK.out _ _ ⟨(blk_cell BK296.out 0).trans rfl, (blk_cell BK295.out 0).trans rfl, (blk_cell BK295.out 1).trans rfl, (blk_cell BK295.out 2).trans rfl⟩ (fun hHeld => ?_)
               clear hK K
               refine norm_ (a' := ?_) ?_ ?_
               rotate_left
               ·show Act.put _ (some 30) _ = _
                simp only [Act.put, List.setIfInBounds_toArray, List.set_cons_zero, List.set_cons_succ, i64_w, i32_w]
                rfl
               refine yq_ (i := 5) (N := some 8) bq_5 (by kernel_rfl) ?_
               refine done_ (by kernel_rfl) ?_
               try go_wp2
               have n0_ := Aside0.mk (blk_drew BK295.out)
               have n1_ := Aside0.mk (blk_drew BK296.out)
               have n2_ := Aside0.mk (blk_drew BK298.out)
               have n3_ := Aside0.mk (below_drew1 HB.out)
               clear BK295 BK296 BK298 HB
               have BK295 := n0_
               have BK296 := n1_
               have BK298 := n2_
               have HB := n3_
               clear n0_ n1_ n2_ n3_
               have p301 : 0 ≤ (t300 : Int) := of_decide_eq_true tq_4
               have q301 : t300 < (l1_0.length : Int) := of_decide_eq_true tq_4
               obtain ⟨ad301, e301, hx301_0, hx301_1, hx301_2⟩ := at_T38 HR1_0.out t300 p301 q301
               have hw301_2 := hx301_2
               have hw301_1 := hx301_1
               have hw301_0 := hx301_0
               cases e301
               replace hx301_0 := hx_ HB.out hx301_0
               replace hx301_1 := hx_ HB.out hx301_1
               replace hx301_2 := hx_ HB.out hx301_2
               replace p301 := eq_true p301
               replace q301 := eq_true q301
               have p302 : 0 ≤ (t300 : Int) := of_decide_eq_true tq_4
               have q302 : t300 < (l1_0.length : Int) := of_decide_eq_true tq_4
               obtain ⟨ad302, e302, hx302_0, hx302_1, hx302_2⟩ := at_T38 HR1_0.out t300 p302 q302
               have hw302_2 := hx302_2
               have hw302_1 := hx302_1
               have hw302_0 := hx302_0
               obtain rfl : ad301 = ad302 := (by injection e302)
               replace hx302_0 := hx_ HB.out hx302_0
               replace hx302_1 := hx_ HB.out hx302_1
               replace hx302_2 := hx_ HB.out hx302_2
               replace p302 := eq_true p302
               replace q302 := eq_true q302
               refine start_ (n := 31) (S := fun w' => w'.cell? ⟨gb296, 0, none⟩ = some (.slice (some ad301) l1_0.length c1_0) ∧ w'.cell? ⟨gb298, 0, none⟩ = some (.int .i64 ((rd_T49 l0_2 x12_1).f0)) ∧ w'.cell? ⟨gb298, 1, none⟩ = some (.int .i64 ((rd_T49 l0_2 x12_1).f1)) ∧ w'.cell? ⟨gb298, 2, none⟩ = some (.int .i64 ((rd_T49 l0_2 x12_1).f2)) ∧ w'.cell? ⟨gb298, 3, none⟩ = some (.string ((rd_T49 l0_2 x12_1).f3)) ∧ w'.cell? ⟨gb298, 4, none⟩ = some (.slice A297_4 ((rd_T49 l0_2 x12_1).f4).length c297_4) ∧ w'.cell? ⟨gb298, 5, none⟩ = some (.slice A297_5 ((rd_T49 l0_2 x12_1).f5).length c297_5) ∧ w'.cell? (ad301.add ((t300).toNat * 3)) = some (.string ((rd_T38 l1_0 t300).f0)) ∧ w'.cell? ⟨(ad301.add ((t300).toNat * 3)).block, (ad301.add ((t300).toNat * 3)).off + 1, none⟩ = some (.bool ((rd_T38 l1_0 t300).f1)) ∧ w'.cell? ⟨(ad301.add ((t300).toNat * 3)).block, (ad301.add ((t300).toNat * 3)).off + 2, none⟩ = some (.string ((rd_T38 l1_0 t300).f2)) ∧ w'.cell? (ad301.add ((t300).toNat * 3)) = some (.string ((rd_T38 l1_0 t300).f0)) ∧ w'.cell? ⟨(ad301.add ((t300).toNat * 3)).block, (ad301.add ((t300).toNat * 3)).off + 1, none⟩ = some (.bool ((rd_T38 l1_0 t300).f1)) ∧ w'.cell? ⟨(ad301.add ((t300).toNat * 3)).block, (ad301.add ((t300).toNat * 3)).off + 2, none⟩ = some (.string ((rd_T38 l1_0 t300).f2))) (ds := []) bq_7 (by kernel_rfl) rfl rfl ⟨(blk_cell BK296.out 0).trans rfl, (blk_cell BK298.out 0).trans rfl, (blk_cell BK298.out 1).trans rfl, (blk_cell BK298.out 2).trans rfl, (blk_cell BK298.out 3).trans rfl, (blk_cell BK298.out 4).trans rfl, (blk_cell BK298.out 5).trans rfl, ((HB.out.cell (World.block_lt_of_cell? w _ hw301_0)).trans hw301_0), ((HB.out.cell (World.block_lt_of_cell? w _ hw301_1)).trans hw301_1), ((HB.out.cell (World.block_lt_of_cell? w _ hw301_2)).trans hw301_2), ((HB.out.cell (World.block_lt_of_cell? w _ hw302_0)).trans hw302_0), ((HB.out.cell (World.block_lt_of_cell? w _ hw302_1)).trans hw302_1), ((HB.out.cell (World.block_lt_of_cell? w _ hw302_2)).trans hw302_2)⟩ (fun hHeld => ?_); refine with_tabW impl_Fits.tab8 impl_Fits.bits8 (fun HT_ HW_ => ?_)
               generalize w38.drew = w39 at BK295 BK296 BK298 HB hx301_0 hx301_1 hx301_2 hx302_0 hx302_1 hx302_2 hHeld ⊢
               refine yq_ (i := 0) (N := some 31) bq_8 (any_of HT_.out (by kernel_rfl)) ?_
               refine yq_ (i := 1) (N := some 32) bq_9 (any_of HT_.out (by kernel_rfl)) ?_
               refine yq_ (i := 2) (N := some 33) bq_10 (any_of HT_.out (by kernel_rfl)) ?_
               refine yq_ (i := 3) (N := some 34) bq_11 (any_of HT_.out (by kernel_rfl)) ?_
               refine yq_ (i := 5) (N := some 36) bq_39 (any_of HT_.out (by kernel_rfl)) ?_
               refine yq_ (i := 9) (N := some 40) bq_40 (any_of HT_.out (by kernel_rfl)) ?_
               refine take_ (i := 4) (N := some 35) (v := ?_) (a' := ?_) bq_41 rfl rfl (take_ofW HT_.out HW_.out (by kernel_rfl)) (fun _ _ _ h => h) (Or.inl ⟨by rfl, ?_⟩) hHeld ?_ ?_
               rotate_left
               ·rintro w' ⟨s0, s1, s2, s3, s4, s5, s6, s7, s8, s9, s10, s11, s12⟩
                go_simp
                with_reducible rfl
               rotate_left
               ·simp only [Act.put, List.setIfInBounds_toArray, List.set_cons_zero, List.set_cons_succ, i64_w, i32_w]
                rfl
               refine yq_ (i := 6) (N := some 37) bq_42 (any_of HT_.out (by kernel_rfl)) ?_
               refine yq_ (i := 7) (N := some 38) bq_43 (any_of HT_.out (by kernel_rfl)) ?_
               refine take_ (i := 8) (N := some 39) (v := ?_) (a' := ?_) bq_12 rfl rfl (take_ofW HT_.out HW_.out (by kernel_rfl)) (fun _ _ _ h => h) (Or.inl ⟨by rfl, ?_⟩) hHeld ?_ ?_
               rotate_left
               ·rintro w' ⟨s0, s1, s2, s3, s4, s5, s6, s7, s8, s9, s10, s11, s12⟩
                go_simp
                with_reducible rfl
               rotate_left
               ·simp only [Act.put, List.setIfInBounds_toArray, List.set_cons_zero, List.set_cons_succ, i64_w, i32_w]
                rfl
               refine take_ (i := 10) (N := some 41) (v := ?_) (a' := ?_) bq_13 rfl rfl (take_ofW HT_.out HW_.out (by kernel_rfl)) (fun _ _ _ h => h) (Or.inl ⟨by rfl, ?_⟩) hHeld ?_ ?_
               rotate_left
               ·rintro w' ⟨s0, s1, s2, s3, s4, s5, s6, s7, s8, s9, s10, s11, s12⟩
                go_simp
                with_reducible rfl
               rotate_left
               ·simp only [Act.put, List.setIfInBounds_toArray, List.set_cons_zero, List.set_cons_succ, i64_w, i32_w]
                rfl
               refine yq_ (i := 11) (N := some 42) bq_14 (any_of HT_.out (by kernel_rfl)) ?_
               refine yq_ (i := 12) (N := some 43) bq_15 (any_of HT_.out (by kernel_rfl)) ?_
               refine yq_ (i := 13) (N := some 44) bq_16 (any_of HT_.out (by kernel_rfl)) ?_
               refine yq_ (i := 14) (N := some 45) bq_17 (any_of HT_.out (by kernel_rfl)) ?_
               refine yq_ (i := 15) (N := some 46) bq_18 (any_of HT_.out (by kernel_rfl)) ?_
               refine take_ (i := 16) (N := some 47) (v := ?_) (a' := ?_) bq_19 rfl rfl (take_ofW HT_.out HW_.out (by kernel_rfl)) (fun _ _ _ h => h) (Or.inl ⟨by rfl, ?_⟩) hHeld ?_ ?_
               rotate_left
               ·rintro w' ⟨s0, s1, s2, s3, s4, s5, s6, s7, s8, s9, s10, s11, s12⟩
                go_simp
                with_reducible rfl
               rotate_left
               ·simp only [Act.put, List.setIfInBounds_toArray, List.set_cons_zero, List.set_cons_succ, i64_w, i32_w]
                rfl
               refine yq_ (i := 17) (N := some 48) bq_20 (any_of HT_.out (by kernel_rfl)) ?_
               refine yq_ (i := 18) (N := some 49) bq_21 (any_of HT_.out (by kernel_rfl)) ?_
               refine yq_ (i := 19) (N := some 50) bq_22 (any_of HT_.out (by kernel_rfl)) ?_
               refine yq_ (i := 21) (N := some 52) bq_56 (any_of HT_.out (by kernel_rfl)) ?_
               refine yq_ (i := 26) (N := some 57) bq_57 (any_of HT_.out (by kernel_rfl)) ?_
               refine take_ (i := 20) (N := some 51) (v := ?_) (a' := ?_) bq_58 rfl rfl (take_ofW HT_.out HW_.out (by kernel_rfl)) (fun _ _ _ h => h) (Or.inl ⟨by rfl, ?_⟩) hHeld ?_ ?_
               rotate_left
               ·rintro w' ⟨s0, s1, s2, s3, s4, s5, s6, s7, s8, s9, s10, s11, s12⟩
                go_simp
                with_reducible rfl
               rotate_left
               ·simp only [Act.put, List.setIfInBounds_toArray, List.set_cons_zero, List.set_cons_succ, i64_w, i32_w]
                rfl
               refine yq_ (i := 22) (N := some 53) bq_59 (any_of HT_.out (by kernel_rfl)) ?_
               refine yq_ (i := 23) (N := some 54) bq_60 (any_of HT_.out (by kernel_rfl)) ?_
               refine take_ (i := 24) (N := some 55) (v := ?_) (a' := ?_) bq_61 rfl rfl (take_ofW HT_.out HW_.out (by kernel_rfl)) (fun _ _ _ h => h) (Or.inl ⟨by rfl, ?_⟩) hHeld ?_ ?_
               rotate_left
               ·rintro w' ⟨s0, s1, s2, s3, s4, s5, s6, s7, s8, s9, s10, s11, s12⟩
                go_simp
                with_reducible rfl
               rotate_left
               ·simp only [Act.put, List.setIfInBounds_toArray, List.set_cons_zero, List.set_cons_succ, i64_w, i32_w]
                rfl
               refine yq_ (i := 25) (N := some 56) bq_23 (any_of HT_.out (by kernel_rfl)) ?_
               refine take_ (i := 27) (N := some 58) (v := ?_) (a' := ?_) bq_24 rfl rfl (take_ofW HT_.out HW_.out (by kernel_rfl)) (fun _ _ _ h => h) (Or.inl ⟨by rfl, ?_⟩) hHeld ?_ ?_
               rotate_left
               ·rintro w' ⟨s0, s1, s2, s3, s4, s5, s6, s7, s8, s9, s10, s11, s12⟩
                go_simp
                with_reducible rfl
               rotate_left
               ·simp only [Act.put, List.setIfInBounds_toArray, List.set_cons_zero, List.set_cons_succ, i64_w, i32_w]
                rfl
               refine yq_ (i := 28) (N := some 59) bq_25 (any_of HT_.out (by kernel_rfl)) ?_
               refine yq_ (i := 29) (N := some 60) bq_26 (any_of HT_.out (by kernel_rfl)) ?_
               refine yq_ (i := 30) (N := some 61) bq_27 (any_of HT_.out (by kernel_rfl)) ?_
               refine done_ (done_of HT_.out (by kernel_rfl)) ?_
               try go_wp2
               go_roundg kj9
               case measure => have := HK1.out; have := HJ9.out; omega
               case rel => exact ⟨(wrap64 (x5_1 + 1)), (wrap64 (x12_1 + 1)), tq_11, tq_11, H', ⟨by have := HK1.out; have := HJ9.out; omega⟩, ⟨by (with_reducible repeat (first | refine blk_drewN ?_ _ | refine blk_drew ?_ | refine blk_alloc ?_ _)); exact BK295.out⟩, ⟨by (with_reducible repeat (first | refine blk_drewN ?_ _ | refine blk_drew ?_ | refine blk_alloc ?_ _)); exact BK296.out⟩, ⟨by repeat (first | (with_reducible first | exact HB.out | apply below_alloc | apply pw_below_drewN | apply below_drew1 | refine below_set ?_ GE295.out | refine below_set ?_ GE296.out | refine below_set ?_ GE298.out) | exact HB.out)⟩⟩
              ·rw [if_neg c35] at H
               have c35b0 : ((((rd_T38 l1_0 t300).f2).size : Int) == ((rd_T49 l0_2 x12_1).f1)) = false := beq_eq_false_iff_ne.mpr c35
               have c35b1 : ((((rd_T38 l1_0 t300).f2).size : Int) != ((rd_T49 l0_2 x12_1).f1)) = true := bne_iff_ne.mpr c35
               obtain rfl := Option.some.inj H
               try go_wp2
               have n0_ := Aside0.mk (blk_drew BK295.out)
               have n1_ := Aside0.mk (blk_drew BK296.out)
               have n2_ := Aside0.mk (blk_drew BK298.out)
               have n3_ := Aside0.mk (below_drew1 HB.out)
               clear BK295 BK296 BK298 HB
               have BK295 := n0_
               have BK296 := n1_
               have BK298 := n2_
               have HB := n3_
               clear n0_ n1_ n2_ n3_
               refine start_ (n := 6) (S := fun w' => w'.cell? ⟨gb296, 0, none⟩ = some (.slice A1_0 l1_0.length c1_0) ∧ w'.cell? ⟨gb295, 0, none⟩ = some (.int .i64 a0_0) ∧ w'.cell? ⟨gb295, 1, none⟩ = some (.slice A0_1 l0_1.length c0_1) ∧ w'.cell? ⟨gb295, 2, none⟩ = some (.slice (some ad297) l0_2.length c0_2)) (ds := []) bq_0 (by kernel_rfl) rfl rfl ⟨(blk_cell BK296.out 0).trans rfl, (blk_cell BK295.out 0).trans rfl, (blk_cell BK295.out 1).trans rfl, (blk_cell BK295.out 2).trans rfl⟩ (fun hHeld => ?_)
               generalize wc.drew = w40 at BK295 BK296 BK298 HB hHeld ⊢
               refine yq_ (i := 2) (N := some 28) bq_6 (by kernel_rfl) ?_
               refine take_ (i := 0) (N := some 26) (v := ?_) (a' := ?_) bq_1 rfl rfl (by kernel_rfl) (fun _ _ _ h => h) (Or.inl ⟨by rfl, ?_⟩) hHeld ?_ ?_
               rotate_left
               ·rintro w' ⟨s0, s1, s2, s3⟩
                go_simp
                with_reducible rfl
               rotate_left
               ·simp only [Act.put, List.setIfInBounds_toArray, List.set_cons_zero, List.set_cons_succ, i64_w, i32_w]
                rfl
               refine take_ (i := 1) (N := some 27) (v := ?_) (a' := ?_) bq_2 rfl rfl (by kernel_rfl) (fun _ _ _ h => h) (Or.inl ⟨by rfl, ?_⟩) hHeld ?_ ?_
               rotate_left
               ·rintro w' ⟨s0, s1, s2, s3⟩
                go_simp
                with_reducible rfl
               rotate_left
               ·simp only [Act.put, List.setIfInBounds_toArray, List.set_cons_zero, List.set_cons_succ, i64_w, i32_w]
                rfl
               refine one_ (i := 3) (N := some 29) bq_3 rfl rfl (by kernel_rfl) (by decide) (fun K hK => ?_)
               refine goes_ Try.func136 (by kernel_rfl) rfl #[.agg #[.int .i64 a0_0, .slice A0_1 l0_1.length c0_1, .slice (some ad297) l0_2.length c0_2], .int .i64 x12_1] (by rfl) rfl rfl tq_1 ?_
               with_reducible refine (impl_PathTo.calls kj9 a0_0 _ _ l0_1 _ _ l0_2 x12_1 t299 _ ?side1 ?side2 ?side3 ?side4 A20.out).mono ?_
               (case side1 => exact tq_6)
               (case side2 => exact HC0_1.out)
               (case side3 => exact tq_7)
               (case side4 => exact HC0_2.out)
               rintro e w41 ⟨rfl, hb⟩
               refine ⟨_, rfl, ?_⟩
               have n0_ := Aside0.mk (blk_below tq_33 hb)
               have n1_ := Aside0.mk (blk_below tq_39 hb)
               have n2_ := Aside0.mk (blk_below tq_46 hb)
               have n3_ := Aside0.mk (below_step tq_27 hb)
               clear BK295 BK296 BK298 HB
               have BK295 := n0_
               have BK296 := n1_
               have BK298 := n2_
               have HB := n3_
               clear n0_ n1_ n2_ n3_
               (try clear hb)
               (try clear hb2)
               (try clear hk)
               (try clear hi)
               refine hK.out _ _ ⟨(blk_cell BK296.out 0).trans rfl, (blk_cell BK295.out 0).trans rfl, (blk_cell BK295.out 1).trans rfl, (blk_cell BK295.out 2).trans rfl⟩ (fun hHeld => ?_)
               clear hK K
               refine norm_ (a' := ?_) ?_ ?_
               rotate_left
               ·show Act.put _ (some 29) _ = _
                simp only [Act.put, List.setIfInBounds_toArray, List.set_cons_zero, List.set_cons_succ, i64_w, i32_w]
                rfl
               refine one_ (i := 4) (N := some 30) bq_4 rfl rfl (by kernel_rfl) (by decide) (fun K hK => ?_)
               refine goes_ Try.func44 (by kernel_rfl) rfl #[.agg #[.slice A1_0 l1_0.length c1_0], .string t299] (by rfl) rfl rfl tq_1 ?_
               with_reducible refine (impl_ItemAt.calls _ _ l1_0 t299 t300 _ ?side1 ?side2 A21.out).mono ?_
               (case side1 => exact tq_14)
               (case side2 => exact HC1_0.out)
               rintro e w42 ⟨rfl, hb⟩
               refine ⟨_, rfl, ?_⟩
               have n0_ := Aside0.mk (blk_below tq_33 hb)
               have n1_ := Aside0.mk (blk_below tq_39 hb)
               have n2_ := Aside0.mk (blk_below tq_46 hb)
               have n3_ := Aside0.mk (below_step tq_27 hb)
               clear BK295 BK296 BK298 HB
               have BK295 := n0_
               have BK296 := n1_
               have BK298 := n2_
               have HB := n3_
               clear n0_ n1_ n2_ n3_
               (try clear hb)
               (try clear hb2)
               (try clear hk)
               (try clear hi)
               refine hK.out _ _ ⟨(blk_cell BK296.out 0).trans rfl, (blk_cell BK295.out 0).trans rfl, (blk_cell BK295.out 1).trans rfl, (blk_cell BK295.out 2).trans rfl⟩ (fun hHeld => ?_)
               clear hK K
               refine norm_ (a' := ?_) ?_ ?_
               rotate_left
               ·show Act.put _ (some 30) _ = _
                simp only [Act.put, List.setIfInBounds_toArray, List.set_cons_zero, List.set_cons_succ, i64_w, i32_w]
                rfl
               refine yq_ (i := 5) (N := some 8) bq_5 (by kernel_rfl) ?_
               refine done_ (by kernel_rfl) ?_
               try go_wp2
               have n0_ := Aside0.mk (blk_drew BK295.out)
               have n1_ := Aside0.mk (blk_drew BK296.out)
               have n2_ := Aside0.mk (blk_drew BK298.out)
               have n3_ := Aside0.mk (below_drew1 HB.out)
               clear BK295 BK296 BK298 HB
               have BK295 := n0_
               have BK296 := n1_
               have BK298 := n2_
               have HB := n3_
               clear n0_ n1_ n2_ n3_
               have p301 : 0 ≤ (t300 : Int) := of_decide_eq_true tq_4
               have q301 : t300 < (l1_0.length : Int) := of_decide_eq_true tq_4
               obtain ⟨ad301, e301, hx301_0, hx301_1, hx301_2⟩ := at_T38 HR1_0.out t300 p301 q301
               have hw301_2 := hx301_2
               have hw301_1 := hx301_1
               have hw301_0 := hx301_0
               cases e301
               replace hx301_0 := hx_ HB.out hx301_0
               replace hx301_1 := hx_ HB.out hx301_1
               replace hx301_2 := hx_ HB.out hx301_2
               replace p301 := eq_true p301
               replace q301 := eq_true q301
               have p302 : 0 ≤ (t300 : Int) := of_decide_eq_true tq_4
               have q302 : t300 < (l1_0.length : Int) := of_decide_eq_true tq_4
               obtain ⟨ad302, e302, hx302_0, hx302_1, hx302_2⟩ := at_T38 HR1_0.out t300 p302 q302
               have hw302_2 := hx302_2
               have hw302_1 := hx302_1
               have hw302_0 := hx302_0
               obtain rfl : ad301 = ad302 := (by injection e302)
               replace hx302_0 := hx_ HB.out hx302_0
               replace hx302_1 := hx_ HB.out hx302_1
               replace hx302_2 := hx_ HB.out hx302_2
               replace p302 := eq_true p302
               replace q302 := eq_true q302
               refine start_ (n := 31) (S := fun w' => w'.cell? ⟨gb296, 0, none⟩ = some (.slice (some ad301) l1_0.length c1_0) ∧ w'.cell? ⟨gb298, 0, none⟩ = some (.int .i64 ((rd_T49 l0_2 x12_1).f0)) ∧ w'.cell? ⟨gb298, 1, none⟩ = some (.int .i64 ((rd_T49 l0_2 x12_1).f1)) ∧ w'.cell? ⟨gb298, 2, none⟩ = some (.int .i64 ((rd_T49 l0_2 x12_1).f2)) ∧ w'.cell? ⟨gb298, 3, none⟩ = some (.string ((rd_T49 l0_2 x12_1).f3)) ∧ w'.cell? ⟨gb298, 4, none⟩ = some (.slice A297_4 ((rd_T49 l0_2 x12_1).f4).length c297_4) ∧ w'.cell? ⟨gb298, 5, none⟩ = some (.slice A297_5 ((rd_T49 l0_2 x12_1).f5).length c297_5) ∧ w'.cell? (ad301.add ((t300).toNat * 3)) = some (.string ((rd_T38 l1_0 t300).f0)) ∧ w'.cell? ⟨(ad301.add ((t300).toNat * 3)).block, (ad301.add ((t300).toNat * 3)).off + 1, none⟩ = some (.bool ((rd_T38 l1_0 t300).f1)) ∧ w'.cell? ⟨(ad301.add ((t300).toNat * 3)).block, (ad301.add ((t300).toNat * 3)).off + 2, none⟩ = some (.string ((rd_T38 l1_0 t300).f2)) ∧ w'.cell? (ad301.add ((t300).toNat * 3)) = some (.string ((rd_T38 l1_0 t300).f0)) ∧ w'.cell? ⟨(ad301.add ((t300).toNat * 3)).block, (ad301.add ((t300).toNat * 3)).off + 1, none⟩ = some (.bool ((rd_T38 l1_0 t300).f1)) ∧ w'.cell? ⟨(ad301.add ((t300).toNat * 3)).block, (ad301.add ((t300).toNat * 3)).off + 2, none⟩ = some (.string ((rd_T38 l1_0 t300).f2))) (ds := []) bq_7 (by kernel_rfl) rfl rfl ⟨(blk_cell BK296.out 0).trans rfl, (blk_cell BK298.out 0).trans rfl, (blk_cell BK298.out 1).trans rfl, (blk_cell BK298.out 2).trans rfl, (blk_cell BK298.out 3).trans rfl, (blk_cell BK298.out 4).trans rfl, (blk_cell BK298.out 5).trans rfl, ((HB.out.cell (World.block_lt_of_cell? w _ hw301_0)).trans hw301_0), ((HB.out.cell (World.block_lt_of_cell? w _ hw301_1)).trans hw301_1), ((HB.out.cell (World.block_lt_of_cell? w _ hw301_2)).trans hw301_2), ((HB.out.cell (World.block_lt_of_cell? w _ hw302_0)).trans hw302_0), ((HB.out.cell (World.block_lt_of_cell? w _ hw302_1)).trans hw302_1), ((HB.out.cell (World.block_lt_of_cell? w _ hw302_2)).trans hw302_2)⟩ (fun hHeld => ?_); refine with_tabW impl_Fits.tab8 impl_Fits.bits8 (fun HT_ HW_ => ?_)
               generalize w42.drew = w43 at BK295 BK296 BK298 HB hx301_0 hx301_1 hx301_2 hx302_0 hx302_1 hx302_2 hHeld ⊢
               refine yq_ (i := 0) (N := some 31) bq_8 (any_of HT_.out (by kernel_rfl)) ?_
               refine yq_ (i := 1) (N := some 32) bq_9 (any_of HT_.out (by kernel_rfl)) ?_
               refine yq_ (i := 2) (N := some 33) bq_10 (any_of HT_.out (by kernel_rfl)) ?_
               refine yq_ (i := 3) (N := some 34) bq_11 (any_of HT_.out (by kernel_rfl)) ?_
               refine yq_ (i := 5) (N := some 36) bq_39 (any_of HT_.out (by kernel_rfl)) ?_
               refine yq_ (i := 9) (N := some 40) bq_40 (any_of HT_.out (by kernel_rfl)) ?_
               refine take_ (i := 4) (N := some 35) (v := ?_) (a' := ?_) bq_41 rfl rfl (take_ofW HT_.out HW_.out (by kernel_rfl)) (fun _ _ _ h => h) (Or.inl ⟨by rfl, ?_⟩) hHeld ?_ ?_
               rotate_left
               ·rintro w' ⟨s0, s1, s2, s3, s4, s5, s6, s7, s8, s9, s10, s11, s12⟩
                go_simp
                with_reducible rfl
               rotate_left
               ·simp only [Act.put, List.setIfInBounds_toArray, List.set_cons_zero, List.set_cons_succ, i64_w, i32_w]
                rfl
               refine yq_ (i := 6) (N := some 37) bq_42 (any_of HT_.out (by kernel_rfl)) ?_
               refine yq_ (i := 7) (N := some 38) bq_43 (any_of HT_.out (by kernel_rfl)) ?_
               refine take_ (i := 8) (N := some 39) (v := ?_) (a' := ?_) bq_12 rfl rfl (take_ofW HT_.out HW_.out (by kernel_rfl)) (fun _ _ _ h => h) (Or.inl ⟨by rfl, ?_⟩) hHeld ?_ ?_
               rotate_left
               ·rintro w' ⟨s0, s1, s2, s3, s4, s5, s6, s7, s8, s9, s10, s11, s12⟩
                go_simp
                with_reducible rfl
               rotate_left
               ·simp only [Act.put, List.setIfInBounds_toArray, List.set_cons_zero, List.set_cons_succ, i64_w, i32_w]
                rfl
               refine take_ (i := 10) (N := some 41) (v := ?_) (a' := ?_) bq_13 rfl rfl (take_ofW HT_.out HW_.out (by kernel_rfl)) (fun _ _ _ h => h) (Or.inl ⟨by rfl, ?_⟩) hHeld ?_ ?_
               rotate_left
               ·rintro w' ⟨s0, s1, s2, s3, s4, s5, s6, s7, s8, s9, s10, s11, s12⟩
                go_simp
                with_reducible rfl
               rotate_left
               ·simp only [Act.put, List.setIfInBounds_toArray, List.set_cons_zero, List.set_cons_succ, i64_w, i32_w]
                rfl
               refine yq_ (i := 11) (N := some 42) bq_14 (any_of HT_.out (by kernel_rfl)) ?_
               refine yq_ (i := 12) (N := some 43) bq_15 (any_of HT_.out (by kernel_rfl)) ?_
               refine yq_ (i := 13) (N := some 44) bq_16 (any_of HT_.out (by kernel_rfl)) ?_
               refine yq_ (i := 14) (N := some 45) bq_17 (any_of HT_.out (by kernel_rfl)) ?_
               refine yq_ (i := 15) (N := some 46) bq_18 (any_of HT_.out (by kernel_rfl)) ?_
               refine take_ (i := 16) (N := some 47) (v := ?_) (a' := ?_) bq_19 rfl rfl (take_ofW HT_.out HW_.out (by kernel_rfl)) (fun _ _ _ h => h) (Or.inl ⟨by rfl, ?_⟩) hHeld ?_ ?_
               rotate_left
               ·rintro w' ⟨s0, s1, s2, s3, s4, s5, s6, s7, s8, s9, s10, s11, s12⟩
                go_simp
                with_reducible rfl
               rotate_left
               ·simp only [Act.put, List.setIfInBounds_toArray, List.set_cons_zero, List.set_cons_succ, i64_w, i32_w]
                rfl
               refine yq_ (i := 17) (N := some 48) bq_20 (any_of HT_.out (by kernel_rfl)) ?_
               refine yq_ (i := 18) (N := some 49) bq_21 (any_of HT_.out (by kernel_rfl)) ?_
               refine yq_ (i := 19) (N := some 50) bq_22 (any_of HT_.out (by kernel_rfl)) ?_
               refine yq_ (i := 21) (N := some 52) bq_56 (any_of HT_.out (by kernel_rfl)) ?_
               refine yq_ (i := 26) (N := some 57) bq_57 (any_of HT_.out (by kernel_rfl)) ?_
               refine take_ (i := 20) (N := some 51) (v := ?_) (a' := ?_) bq_58 rfl rfl (take_ofW HT_.out HW_.out (by kernel_rfl)) (fun _ _ _ h => h) (Or.inl ⟨by rfl, ?_⟩) hHeld ?_ ?_
               rotate_left
               ·rintro w' ⟨s0, s1, s2, s3, s4, s5, s6, s7, s8, s9, s10, s11, s12⟩
                go_simp
                with_reducible rfl
               rotate_left
               ·simp only [Act.put, List.setIfInBounds_toArray, List.set_cons_zero, List.set_cons_succ, i64_w, i32_w]
                rfl
               refine yq_ (i := 22) (N := some 53) bq_59 (any_of HT_.out (by kernel_rfl)) ?_
               refine yq_ (i := 23) (N := some 54) bq_60 (any_of HT_.out (by kernel_rfl)) ?_
               refine take_ (i := 24) (N := some 55) (v := ?_) (a' := ?_) bq_61 rfl rfl (take_ofW HT_.out HW_.out (by kernel_rfl)) (fun _ _ _ h => h) (Or.inl ⟨by rfl, ?_⟩) hHeld ?_ ?_
               rotate_left
               ·rintro w' ⟨s0, s1, s2, s3, s4, s5, s6, s7, s8, s9, s10, s11, s12⟩
                go_simp
                with_reducible rfl
               rotate_left
               ·simp only [Act.put, List.setIfInBounds_toArray, List.set_cons_zero, List.set_cons_succ, i64_w, i32_w]
                rfl
               refine yq_ (i := 25) (N := some 56) bq_23 (any_of HT_.out (by kernel_rfl)) ?_
               refine take_ (i := 27) (N := some 58) (v := ?_) (a' := ?_) bq_24 rfl rfl (take_ofW HT_.out HW_.out (by kernel_rfl)) (fun _ _ _ h => h) (Or.inl ⟨by rfl, ?_⟩) hHeld ?_ ?_
               rotate_left
               ·rintro w' ⟨s0, s1, s2, s3, s4, s5, s6, s7, s8, s9, s10, s11, s12⟩
                go_simp
                with_reducible rfl
               rotate_left
               ·simp only [Act.put, List.setIfInBounds_toArray, List.set_cons_zero, List.set_cons_succ, i64_w, i32_w]
                rfl
               refine yq_ (i := 28) (N := some 59) bq_25 (any_of HT_.out (by kernel_rfl)) ?_
               refine yq_ (i := 29) (N := some 60) bq_26 (any_of HT_.out (by kernel_rfl)) ?_
               refine yq_ (i := 30) (N := some 61) bq_27 (any_of HT_.out (by kernel_rfl)) ?_
               refine done_ (done_of HT_.out (by kernel_rfl)) ?_
               try go_wp2
               go_ret
               exact ⟨by first | rfl | (simp [errW_none, errW_some] <;> rfl) | (simp [*, errW_none, errW_some] <;> rfl), by repeat (first | (with_reducible first | exact HB.out | apply below_alloc | apply pw_below_drewN | apply below_drew1 | refine below_set ?_ GE295.out | refine below_set ?_ GE296.out | refine below_set ?_ GE298.out) | exact HB.out)⟩
             ·rw [if_neg c34] at H
              have c34b0 : (((rd_T49 l0_2 x12_1).f0) == 1) = false := beq_eq_false_iff_ne.mpr c34
              have c34b1 : (((rd_T49 l0_2 x12_1).f0) != 1) = true := bne_iff_ne.mpr c34
              have H' := Aside0.mk H
              clear H
              try go_wp2
              have n0_ := Aside0.mk (blk_drew BK295.out)
              have n1_ := Aside0.mk (blk_drew BK296.out)
              have n2_ := Aside0.mk (blk_drew BK298.out)
              have n3_ := Aside0.mk (below_drew1 HB.out)
              clear BK295 BK296 BK298 HB
              have BK295 := n0_
              have BK296 := n1_
              have BK298 := n2_
              have HB := n3_
              clear n0_ n1_ n2_ n3_
              refine start_ (n := 6) (S := fun w' => w'.cell? ⟨gb296, 0, none⟩ = some (.slice A1_0 l1_0.length c1_0) ∧ w'.cell? ⟨gb295, 0, none⟩ = some (.int .i64 a0_0) ∧ w'.cell? ⟨gb295, 1, none⟩ = some (.slice A0_1 l0_1.length c0_1) ∧ w'.cell? ⟨gb295, 2, none⟩ = some (.slice (some ad297) l0_2.length c0_2)) (ds := []) bq_0 (by kernel_rfl) rfl rfl ⟨(blk_cell BK296.out 0).trans rfl, (blk_cell BK295.out 0).trans rfl, (blk_cell BK295.out 1).trans rfl, (blk_cell BK295.out 2).trans rfl⟩ (fun hHeld => ?_)
              generalize wc.drew = w44 at BK295 BK296 BK298 HB hHeld ⊢
              refine yq_ (i := 2) (N := some 28) bq_6 (by kernel_rfl) ?_
              refine take_ (i := 0) (N := some 26) (v := ?_) (a' := ?_) bq_1 rfl rfl (by kernel_rfl) (fun _ _ _ h => h) (Or.inl ⟨by rfl, ?_⟩) hHeld ?_ ?_
              rotate_left
              ·rintro w' ⟨s0, s1, s2, s3⟩
               go_simp
               with_reducible rfl
              rotate_left
              ·simp only [Act.put, List.setIfInBounds_toArray, List.set_cons_zero, List.set_cons_succ, i64_w, i32_w]
               rfl
              refine take_ (i := 1) (N := some 27) (v := ?_) (a' := ?_) bq_2 rfl rfl (by kernel_rfl) (fun _ _ _ h => h) (Or.inl ⟨by rfl, ?_⟩) hHeld ?_ ?_
              rotate_left
              ·rintro w' ⟨s0, s1, s2, s3⟩
               go_simp
               with_reducible rfl
              rotate_left
              ·simp only [Act.put, List.setIfInBounds_toArray, List.set_cons_zero, List.set_cons_succ, i64_w, i32_w]
               rfl
              refine one_ (i := 3) (N := some 29) bq_3 rfl rfl (by kernel_rfl) (by decide) (fun K hK => ?_)
              refine goes_ Try.func136 (by kernel_rfl) rfl #[.agg #[.int .i64 a0_0, .slice A0_1 l0_1.length c0_1, .slice (some ad297) l0_2.length c0_2], .int .i64 x12_1] (by rfl) rfl rfl tq_1 ?_
              with_reducible refine (impl_PathTo.calls kj9 a0_0 _ _ l0_1 _ _ l0_2 x12_1 t299 _ ?side1 ?side2 ?side3 ?side4 A20.out).mono ?_
              (case side1 => exact tq_6)
              (case side2 => exact HC0_1.out)
              (case side3 => exact tq_7)
              (case side4 => exact HC0_2.out)
              rintro e w45 ⟨rfl, hb⟩
              refine ⟨_, rfl, ?_⟩
              have n0_ := Aside0.mk (blk_below tq_33 hb)
              have n1_ := Aside0.mk (blk_below tq_39 hb)
              have n2_ := Aside0.mk (blk_below tq_46 hb)
              have n3_ := Aside0.mk (below_step tq_27 hb)
              clear BK295 BK296 BK298 HB
              have BK295 := n0_
              have BK296 := n1_
              have BK298 := n2_
              have HB := n3_
              clear n0_ n1_ n2_ n3_
              (try clear hb)
              (try clear hb2)
              (try clear hk)
              (try clear hi)
              refine hK.out _ _ ⟨(blk_cell BK296.out 0).trans rfl, (blk_cell BK295.out 0).trans rfl, (blk_cell BK295.out 1).trans rfl, (blk_cell BK295.out 2).trans rfl⟩ (fun hHeld => ?_)
              clear hK K
              refine norm_ (a' := ?_) ?_ ?_
              rotate_left
              ·show Act.put _ (some 29) _ = _
               simp only [Act.put, List.setIfInBounds_toArray, List.set_cons_zero, List.set_cons_succ, i64_w, i32_w]
               rfl
              refine one_ (i := 4) (N := some 30) bq_4 rfl rfl (by kernel_rfl) (by decide) (fun K hK => ?_)
              refine goes_ Try.func44 (by kernel_rfl) rfl #[.agg #[.slice A1_0 l1_0.length c1_0], .string t299] (by rfl) rfl rfl tq_1 ?_
              with_reducible refine (impl_ItemAt.calls _ _ l1_0 t299 t300 _ ?side1 ?side2 A21.out).mono ?_
              (case side1 => exact tq_14)
              (case side2 => exact HC1_0.out)
              rintro e w46 ⟨rfl, hb⟩
              refine ⟨_, rfl, ?_⟩
              have n0_ := Aside0.mk (blk_below tq_33 hb)
              have n1_ := Aside0.mk (blk_below tq_39 hb)
              have n2_ := Aside0.mk (blk_below tq_46 hb)
              have n3_ := Aside0.mk (below_step tq_27 hb)
              clear BK295 BK296 BK298 HB
              have BK295 := n0_
              have BK296 := n1_
              have BK298 := n2_
              have HB := n3_
              clear n0_ n1_ n2_ n3_
              (try clear hb)
              (try clear hb2)
              (try clear hk)
              (try clear hi)
              refine hK.out _ _ ⟨(blk_cell BK296.out 0).trans rfl, (blk_cell BK295.out 0).trans rfl, (blk_cell BK295.out 1).trans rfl, (blk_cell BK295.out 2).trans rfl⟩ (fun hHeld => ?_)
              clear hK K
              refine norm_ (a' := ?_) ?_ ?_
              rotate_left
              ·show Act.put _ (some 30) _ = _
               simp only [Act.put, List.setIfInBounds_toArray, List.set_cons_zero, List.set_cons_succ, i64_w, i32_w]
               rfl
              refine yq_ (i := 5) (N := some 8) bq_5 (by kernel_rfl) ?_
              refine done_ (by kernel_rfl) ?_
              try go_wp2
              have n0_ := Aside0.mk (blk_drew BK295.out)
              have n1_ := Aside0.mk (blk_drew BK296.out)
              have n2_ := Aside0.mk (blk_drew BK298.out)
              have n3_ := Aside0.mk (below_drew1 HB.out)
              clear BK295 BK296 BK298 HB
              have BK295 := n0_
              have BK296 := n1_
              have BK298 := n2_
              have HB := n3_
              clear n0_ n1_ n2_ n3_
              have p301 : 0 ≤ (t300 : Int) := of_decide_eq_true tq_4
              have q301 : t300 < (l1_0.length : Int) := of_decide_eq_true tq_4
              obtain ⟨ad301, e301, hx301_0, hx301_1, hx301_2⟩ := at_T38 HR1_0.out t300 p301 q301
              have hw301_2 := hx301_2
              have hw301_1 := hx301_1
              have hw301_0 := hx301_0
              cases e301
              replace hx301_0 := hx_ HB.out hx301_0
              replace hx301_1 := hx_ HB.out hx301_1
              replace hx301_2 := hx_ HB.out hx301_2
              replace p301 := eq_true p301
              replace q301 := eq_true q301
              refine start_ (n := 31) (S := fun w' => w'.cell? ⟨gb296, 0, none⟩ = some (.slice (some ad301) l1_0.length c1_0) ∧ w'.cell? ⟨gb298, 0, none⟩ = some (.int .i64 ((rd_T49 l0_2 x12_1).f0)) ∧ w'.cell? ⟨gb298, 1, none⟩ = some (.int .i64 ((rd_T49 l0_2 x12_1).f1)) ∧ w'.cell? ⟨gb298, 2, none⟩ = some (.int .i64 ((rd_T49 l0_2 x12_1).f2)) ∧ w'.cell? ⟨gb298, 3, none⟩ = some (.string ((rd_T49 l0_2 x12_1).f3)) ∧ w'.cell? ⟨gb298, 4, none⟩ = some (.slice A297_4 ((rd_T49 l0_2 x12_1).f4).length c297_4) ∧ w'.cell? ⟨gb298, 5, none⟩ = some (.slice A297_5 ((rd_T49 l0_2 x12_1).f5).length c297_5) ∧ w'.cell? (ad301.add ((t300).toNat * 3)) = some (.string ((rd_T38 l1_0 t300).f0)) ∧ w'.cell? ⟨(ad301.add ((t300).toNat * 3)).block, (ad301.add ((t300).toNat * 3)).off + 1, none⟩ = some (.bool ((rd_T38 l1_0 t300).f1)) ∧ w'.cell? ⟨(ad301.add ((t300).toNat * 3)).block, (ad301.add ((t300).toNat * 3)).off + 2, none⟩ = some (.string ((rd_T38 l1_0 t300).f2))) (ds := []) bq_7 (by kernel_rfl) rfl rfl ⟨(blk_cell BK296.out 0).trans rfl, (blk_cell BK298.out 0).trans rfl, (blk_cell BK298.out 1).trans rfl, (blk_cell BK298.out 2).trans rfl, (blk_cell BK298.out 3).trans rfl, (blk_cell BK298.out 4).trans rfl, (blk_cell BK298.out 5).trans rfl, ((HB.out.cell (World.block_lt_of_cell? w _ hw301_0)).trans hw301_0), ((HB.out.cell (World.block_lt_of_cell? w _ hw301_1)).trans hw301_1), ((HB.out.cell (World.block_lt_of_cell? w _ hw301_2)).trans hw301_2)⟩ (fun hHeld => ?_); refine with_tabW impl_Fits.tab8 impl_Fits.bits8 (fun HT_ HW_ => ?_)
              generalize w46.drew = w47 at BK295 BK296 BK298 HB hx301_0 hx301_1 hx301_2 hHeld ⊢
              refine yq_ (i := 0) (N := some 31) bq_8 (any_of HT_.out (by kernel_rfl)) ?_
              refine yq_ (i := 1) (N := some 32) bq_9 (any_of HT_.out (by kernel_rfl)) ?_
              refine yq_ (i := 2) (N := some 33) bq_10 (any_of HT_.out (by kernel_rfl)) ?_
              refine yq_ (i := 3) (N := some 34) bq_11 (any_of HT_.out (by kernel_rfl)) ?_
              refine yq_ (i := 5) (N := some 36) bq_39 (any_of HT_.out (by kernel_rfl)) ?_
              refine yq_ (i := 9) (N := some 40) bq_40 (any_of HT_.out (by kernel_rfl)) ?_
              refine take_ (i := 4) (N := some 35) (v := ?_) (a' := ?_) bq_41 rfl rfl (take_ofW HT_.out HW_.out (by kernel_rfl)) (fun _ _ _ h => h) (Or.inl ⟨by rfl, ?_⟩) hHeld ?_ ?_
              rotate_left
              ·rintro w' ⟨s0, s1, s2, s3, s4, s5, s6, s7, s8, s9⟩
               go_simp
               with_reducible rfl
              rotate_left
              ·simp only [Act.put, List.setIfInBounds_toArray, List.set_cons_zero, List.set_cons_succ, i64_w, i32_w]
               rfl
              refine yq_ (i := 6) (N := some 37) bq_42 (any_of HT_.out (by kernel_rfl)) ?_
              refine yq_ (i := 7) (N := some 38) bq_43 (any_of HT_.out (by kernel_rfl)) ?_
              refine take_ (i := 8) (N := some 39) (v := ?_) (a' := ?_) bq_12 rfl rfl (take_ofW HT_.out HW_.out (by kernel_rfl)) (fun _ _ _ h => h) (Or.inl ⟨by rfl, ?_⟩) hHeld ?_ ?_
              rotate_left
              ·rintro w' ⟨s0, s1, s2, s3, s4, s5, s6, s7, s8, s9⟩
               go_simp
               with_reducible rfl
              rotate_left
              ·simp only [Act.put, List.setIfInBounds_toArray, List.set_cons_zero, List.set_cons_succ, i64_w, i32_w]
               rfl
              refine take_ (i := 10) (N := some 41) (v := ?_) (a' := ?_) bq_13 rfl rfl (take_ofW HT_.out HW_.out (by kernel_rfl)) (fun _ _ _ h => h) (Or.inl ⟨by rfl, ?_⟩) hHeld ?_ ?_
              rotate_left
              ·rintro w' ⟨s0, s1, s2, s3, s4, s5, s6, s7, s8, s9⟩
               go_simp
               with_reducible rfl
              rotate_left
              ·simp only [Act.put, List.setIfInBounds_toArray, List.set_cons_zero, List.set_cons_succ, i64_w, i32_w]
               rfl
              refine yq_ (i := 11) (N := some 42) bq_14 (any_of HT_.out (by kernel_rfl)) ?_
              refine yq_ (i := 12) (N := some 43) bq_15 (any_of HT_.out (by kernel_rfl)) ?_
              refine yq_ (i := 13) (N := some 44) bq_16 (any_of HT_.out (by kernel_rfl)) ?_
              refine yq_ (i := 14) (N := some 45) bq_17 (any_of HT_.out (by kernel_rfl)) ?_
              refine yq_ (i := 15) (N := some 46) bq_18 (any_of HT_.out (by kernel_rfl)) ?_
              refine take_ (i := 16) (N := some 47) (v := ?_) (a' := ?_) bq_19 rfl rfl (take_ofW HT_.out HW_.out (by kernel_rfl)) (fun _ _ _ h => h) (Or.inl ⟨by rfl, ?_⟩) hHeld ?_ ?_
              rotate_left
              ·rintro w' ⟨s0, s1, s2, s3, s4, s5, s6, s7, s8, s9⟩
               go_simp
               with_reducible rfl
              rotate_left
              ·simp only [Act.put, List.setIfInBounds_toArray, List.set_cons_zero, List.set_cons_succ, i64_w, i32_w]
               rfl
              refine yq_ (i := 17) (N := some 48) bq_20 (any_of HT_.out (by kernel_rfl)) ?_
              refine yq_ (i := 18) (N := some 49) bq_21 (any_of HT_.out (by kernel_rfl)) ?_
              refine uq_ (i := 19) (N := some 50) bq_22 (any_of HT_.out (by kernel_rfl)) ?_
              refine uq_ (i := 20) (N := some 51) bq_44 (any_of HT_.out (by kernel_rfl)) ?_
              refine uq_ (i := 21) (N := some 52) bq_45 (any_of HT_.out (by kernel_rfl)) ?_
              refine uq_ (i := 22) (N := some 53) bq_46 (any_of HT_.out (by kernel_rfl)) ?_
              refine uq_ (i := 23) (N := some 54) bq_47 (any_of HT_.out (by kernel_rfl)) ?_
              refine uq_ (i := 24) (N := some 55) bq_48 (any_of HT_.out (by kernel_rfl)) ?_
              refine uq_ (i := 25) (N := some 56) bq_49 (any_of HT_.out (by kernel_rfl)) ?_
              refine uq_ (i := 26) (N := some 57) bq_23 (any_of HT_.out (by kernel_rfl)) ?_
              refine uq_ (i := 27) (N := some 58) bq_24 (any_of HT_.out (by kernel_rfl)) ?_
              refine uq_ (i := 28) (N := some 59) bq_25 (any_of HT_.out (by kernel_rfl)) ?_
              refine yq_ (i := 29) (N := some 60) bq_26 (any_of HT_.out (by kernel_rfl)) ?_
              refine yq_ (i := 30) (N := some 61) bq_27 (any_of HT_.out (by kernel_rfl)) ?_
              refine done_ (done_of HT_.out (by kernel_rfl)) ?_
              try go_wp2
              go_roundg kj9
              case measure => have := HK1.out; have := HJ9.out; omega
              case rel => exact ⟨(wrap64 (x5_1 + 1)), (wrap64 (x12_1 + 1)), tq_11, tq_11, H', ⟨by have := HK1.out; have := HJ9.out; omega⟩, ⟨by (with_reducible repeat (first | refine blk_drewN ?_ _ | refine blk_drew ?_ | refine blk_alloc ?_ _)); exact BK295.out⟩, ⟨by (with_reducible repeat (first | refine blk_drewN ?_ _ | refine blk_drew ?_ | refine blk_alloc ?_ _)); exact BK296.out⟩, ⟨by repeat (first | (with_reducible first | exact HB.out | apply below_alloc | apply pw_below_drewN | apply below_drew1 | refine below_set ?_ GE295.out | refine below_set ?_ GE296.out | refine below_set ?_ GE298.out) | exact HB.out)⟩⟩
           ·rw [if_neg c28] at H
            exact absurd H (by simp)
          ·rw [if_neg c27] at H
           exact absurd H (by simp)
     ·rw [if_neg c9] at H
      exact absurd H (by simp)
    ·rw [if_neg c8] at H
     exact absurd H (by simp)
   ·rw [if_neg c7] at H
    have c7b0 : decide (x12_1 < (l0_2.length : Int)) = false := decide_eq_false c7
    clear c7
    obtain rfl := Option.some.inj H
    have hnb48 := NB296_295.out
    have hnc48 := NB295_296.out
    have hcz49_0 := bc_ BK296.out 0
    have hfz49_0 := blk_frozen BK296.out 0
    go_wp2
    go_ret
    exact ⟨by first | rfl | (simp [errW_none, errW_some] <;> rfl) | (simp [*, errW_none, errW_some] <;> rfl), by repeat (first | (with_reducible first | exact HB.out | apply below_alloc | apply pw_below_drewN | apply below_drew1 | refine below_set ?_ GE295.out | refine below_set ?_ GE296.out) | exact HB.out)⟩

end Go.Proofs.Ytcdnfkoahajhhaa.PFnExactFits
