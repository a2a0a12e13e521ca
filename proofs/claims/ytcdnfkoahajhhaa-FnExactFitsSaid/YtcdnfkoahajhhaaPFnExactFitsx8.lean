/- Contracts of Go functions, written by a program of ours over the print of the kit: each says that the call returns what the Lean function beside it computes. Conditions: as each theorem states them. -/
import Derived.Test.YtcdnfkoahajhhaaPkFnExactFits
import Derived.Test.YtcdnfkoahajhhaaPFnExactFitsx0
import Derived.Test.YtcdnfkoahajhhaaPFnExactFitsx5
import Derived.Test.YtcdnfkoahajhhaaPFnExactFitsx7
namespace Go.Proofs.Ytcdnfkoahajhhaa.PFnExactFits
open Go.RowKit Go.Proofs.YtcdnfkoahajhhaaW.PrintWords Go.Proofs.YtcdnfkoahajhhaaW.PrintLast Go.Proofs.YtcdnfkoahajhhaaW.PrintMore
attribute [local go_sem] max2_int min2_int max_two min_two max_three min_three max_four min_four   -- for this text's walks alone
set_option linter.unusedVariables false
set_option linter.unusedSimpArgs false

/-! ### spec_Fits: function 54 -/
def spec_Fits.l0 : Nat → Int → Int → Int → List Int → List (S49) → List (S38) → Option (Bool)
 | 0, _, _, _, _, _, _ => none
 | k + 1, x5, x6, x198000, x198001, x198002, x199000 => if x6 < (x198002.length : Int) then (if 0 ≤ x6 then (if ((rd_T49 x198002 x6).f0) = 0 then (spec_Fits.l0 k x5 (wrap64 (x6 + 1)) x198000 x198001 x198002 x199000) else ((spec_PathTo.f k x198000 x198001 x198002 x6).bind fun t201 => ((spec_ItemAt.f k x199000 t201).bind fun t202 => (if t202 < 0 then (some false) else (if 0 ≤ t202 then (if t202 < (x199000.length : Int) then (if (((rd_T38 x199000 t202).f1) != (((rd_T49 x198002 x6).f0) == 2)) = true then (some false) else (if ((rd_T49 x198002 x6).f0) = 1 then (if (((rd_T38 x199000 t202).f2).size : Int) = ((rd_T49 x198002 x6).f1) then (spec_Fits.l0 k (wrap64 (x5 + 1)) (wrap64 (x6 + 1)) x198000 x198001 x198002 x199000) else (some false)) else (spec_Fits.l0 k (wrap64 (x5 + 1)) (wrap64 (x6 + 1)) x198000 x198001 x198002 x199000))) else (none)) else (none)))))) else (none)) else (some (x5 == (x199000.length : Int)))
def spec_Fits.f (k : Nat) (a0_0 : Int) (l0_1 : List Int) (l0_2 : List (S49)) (l1_0 : List (S38)) : Option (Bool) := spec_Fits.l0 k 0 1 a0_0 l0_1 l0_2 l1_0
theorem spec_Fits.mono_l : ∀ k, (∀ y0 y1 y2 y3 y4 y5, LeO (spec_Fits.l0 k y0 y1 y2 y3 y4 y5) (spec_Fits.l0 (k + 1) y0 y1 y2 y3 y4 y5))
 | 0 => fun _ _ _ _ _ _ r h => by simp [spec_Fits.l0] at h
 | k + 1 => by
  have ih0 := spec_Fits.mono_l k
  ·intro y0 y1 y2 y3 y4 y5
   unfold spec_Fits.l0
   repeat' first
   | (with_reducible exact ih0 _ _ _ _ _ _)
   | (with_reducible exact spec_ItemAt.mono _ _ _)
   | (with_reducible exact spec_PathTo.mono _ _ _ _ _)
   | (with_reducible exact LeO.refl _)
   | (with_reducible exact LeO.none _)
   | (with_reducible refine LeO.ite ?_ ?_)
   | (with_reducible refine LeO.bind ?_ (fun _ => ?_))
   | exact ih0 _ _ _ _ _ _
   | exact spec_ItemAt.mono _ _ _
   | exact spec_PathTo.mono _ _ _ _ _
   | exact LeO.none _
   | refine LeO.ite ?_ ?_
   | refine LeO.bind ?_ (fun _ => ?_)
theorem spec_Fits.mono : ∀ a0 a1 a2 a3 k, LeO (spec_Fits.f k a0 a1 a2 a3) (spec_Fits.f (k + 1) a0 a1 a2 a3) := by
 intro a0 a1 a2 a3 k
 have ih0 := spec_Fits.mono_l k
 unfold spec_Fits.f
 repeat' first
   | (with_reducible exact ih0 _ _ _ _ _ _)
   | (with_reducible exact spec_ItemAt.mono _ _ _)
   | (with_reducible exact spec_PathTo.mono _ _ _ _ _)
   | (with_reducible exact LeO.refl _)
   | (with_reducible exact LeO.none _)
   | (with_reducible refine LeO.ite ?_ ?_)
   | (with_reducible refine LeO.bind ?_ (fun _ => ?_))
   | exact ih0 _ _ _ _ _ _
   | exact spec_ItemAt.mono _ _ _
   | exact spec_PathTo.mono _ _ _ _ _
   | exact LeO.none _
   | refine LeO.ite ?_ ?_
   | refine LeO.bind ?_ (fun _ => ?_)
def spec_Fits.T9 : Bool × List (List Nat × List Nat) := (true, [([], []), ([0], [0]), ([1], [1]), ([2], [2]), ([3, 2], [2, 3]), ([2], [2]), ([4, 5, 2], [2, 4, 5]), ([6, 2], [2, 6]), ([7, 2], [2, 7]), ([2], [2]), ([9, 2], [2, 9]), ([10, 2], [2, 10]), ([8, 11, 2], [2, 8, 11]), ([2, 12], [2, 12]), ([13, 2], [13]), ([14], [14]), ([15, 14], [14, 15]), ([16, 14], [14, 16]), ([17, 14, 14], [14, 17]), ([18], [18]), ([19, 18], [18, 19]), ([18], [18]), ([20, 21, 18], [18, 20, 21]), ([22, 18], [18, 22]), ([23, 18], [18, 23]), ([24, 18], [18, 24]), ([18], [18]), ([26, 18], [18, 26]), ([25, 27, 18], [18, 25, 27]), ([18, 28, 14], [14, 18, 28]), ([14, 29], [14, 29])])
def spec_Fits.B9 : List Nat := [0, 1, 3, 7, 15, 7, 63, 127, 255, 7, 519, 1543, 4095, 8191, 16383, 32767, 65535, 131071, 262143, 524287, 1048575, 524287, 4194303, 8388607, 16777215, 33554431, 524287, 67633151, 268435455, 536870911, 1073741823]
theorem spec_Fits.tab9 : rtab .any (opsOf Try.f54 9) = spec_Fits.T9 := by kernel_rfl
theorem spec_Fits.bits9 : waitsOk spec_Fits.T9.2 spec_Fits.B9 = true := by kernel_rfl
set_option maxHeartbeats 8000000 in
set_option maxRecDepth 100000 in
theorem spec_Fits.calls (k : Nat) (a0_0 : Int) (A0_1 : Option Addr) (c0_1 : Nat) (l0_1 : List Int) (A0_2 : Option Addr) (c0_2 : Nat) (l0_2 : List (S49)) (A1_0 : Option Addr) (c1_0 : Nat) (l1_0 : List (S38)) (r : Bool) (w : World) (hr0_1 : Kd.C (Kd.int .i64) w A0_1 l0_1.length l0_1) (hc0_1 : l0_1.length ≤ c0_1) (hr0_2 : Kd.C k49 w A0_2 l0_2.length l0_2) (hc0_2 : l0_2.length ≤ c0_2) (hr1_0 : Kd.C k38 w A1_0 l1_0.length l1_0) (hc1_0 : l1_0.length ≤ c1_0) (h : spec_Fits.f k a0_0 l0_1 l0_2 l1_0 = some r) :
  Calls Try.prog 54 #[.agg #[.int .i64 a0_0, .slice A0_1 l0_1.length c0_1, .slice A0_2 l0_2.length c0_2], .agg #[.slice A1_0 l1_0.length c1_0]] w fun e w' => e = .returned (.bool r) ∧ Below w.heap.size w w' := by
 have hu69 := Try.underlying69
 have hu28 := Try.underlying28
 have hu49 := Try.underlying49
 have HR0_1 := Aside0.mk hr0_1
 have HC0_1 := Aside0.mk hc0_1
 clear hr0_1 hc0_1
 have HR0_2 := Aside0.mk hr0_2
 have HC0_2 := Aside0.mk hc0_2
 clear hr0_2 hc0_2
 have HR1_0 := Aside0.mk hr1_0
 have HC1_0 := Aside0.mk hc1_0
 clear hr1_0 hc1_0
 have HB := Aside0.mk (Below.refl w.heap.size w)
 have H : (spec_Fits.l0 k 0 1 a0_0 l0_1 l0_2 l1_0) = some r := h
 clear h
 have H' := Aside0.mk H
 clear H
 go_enter Try.func54, Try.ntmps54
 go_wp2_with (first | ((with_reducible refine gate_dst (N := 2) rfl ?_); (try (refine gate_guard (by rfl) ?_; dsimp only)); refine box_event ?hg (N := 2) ?hd (cs := #[.int .i64 a0_0, .slice A0_1 l0_1.length c0_1, .slice A0_2 l0_2.length c0_2]) (t := 69) ?hr ?_; (case hd => rfl); (case hg => rfl); (case hr => first | (go_simp; done) | (go_simp; rfl)); intro gb197 hg w3 hbox hb; have n0_ := Aside0.mk (below_step tq_0 hb); have n1_ := Aside0.mk (hbox); have n2_ := Aside0.mk (gb_ hg tq_0); have n3_ := Aside0.mk (gb_ hg tq_0); clear HB; have HB := n0_; have BK197 := n1_; have GW197 := n2_; have GE197 := n3_; clear n0_ n1_ n2_ n3_; clear hb hbox hg) | ((with_reducible refine gate_dst (N := 3) rfl ?_); (try (refine gate_guard (by rfl) ?_; dsimp only)); refine box_event ?hg (N := 3) ?hd (cs := #[.slice A1_0 l1_0.length c1_0]) (t := 28) ?hr ?_; (case hd => rfl); (case hg => rfl); (case hr => first | (go_simp; done) | (go_simp; rfl)); intro gb198 hg w4 hbox hb; have n0_ := Aside0.mk (blk_below tq_15 hb); have n1_ := Aside0.mk (below_step tq_101 hb); have n2_ := Aside0.mk (hbox); have n3_ := Aside0.mk (gb_ hg tq_101); have n4_ := Aside0.mk (gb_ hg tq_101); have n5_ := Aside0.mk (ltne_ hg (blk_lt tq_15)); have n6_ := Aside0.mk (gtne_ hg (blk_lt tq_15)); clear BK197 HB; have BK197 := n0_; have HB := n1_; have BK198 := n2_; have GW198 := n3_; have GE198 := n4_; have NB197_198 := n5_; have NB198_197 := n6_; clear n0_ n1_ n2_ n3_ n4_ n5_ n6_; clear hb hbox hg))
 go_loopg [5, 6] k (fun kq v5 v6 w' => ∃ (x5_1 : Int) (x6_1 : Int), v5 = .int .i64 x5_1 ∧ v6 = .int .i64 x6_1 ∧ Aside0 (spec_Fits.l0 kq x5_1 x6_1 a0_0 l0_1 l0_2 l1_0 = some r) ∧ Aside0 (kq ≤ k) ∧ Aside0 (w'.heap[gb197]? = some (.cells #[.int .i64 a0_0, (.slice A0_1 l0_1.length c0_1), (.slice A0_2 l0_2.length c0_2)] 69 (0, 0))) ∧ Aside0 (w'.heap[gb198]? = some (.cells #[(.slice A1_0 l1_0.length c1_0)] 28 (0, 0))) ∧ Aside0 (Below w.heap.size w w'))
 case atStart => exact ⟨(0), (1), tq_11, tq_11, H', ⟨Nat.le_refl _⟩, ⟨by (with_reducible repeat (first | refine blk_drewN ?_ _ | refine blk_drew ?_ | refine blk_alloc ?_ _)); exact BK197.out⟩, ⟨by (with_reducible repeat (first | refine blk_drewN ?_ _ | refine blk_drew ?_ | refine blk_alloc ?_ _)); exact BK198.out⟩, ⟨by repeat (first | (with_reducible first | exact HB.out | apply below_alloc | apply pw_below_drewN | apply below_drew1 | refine below_set ?_ GE197.out | refine below_set ?_ GE198.out) | exact HB.out)⟩⟩
 case round =>
  clear H'
  try clear c1
  try clear p2
  obtain ⟨x5_1, x6_1, rfl, rfl, HA, HK1, BK197, BK198, HB⟩ := hrel
  cases gk with
  | zero => exact absurd HA.out (by simp [spec_Fits.l0])
  | succ k1 =>
   have H := HA.out
   clear HA
   simp only [spec_Fits.l0] at H
   by_cases c5 : x6_1 < (l0_2.length : Int)
   ·rw [if_pos c5] at H
    have c5b0 : decide (x6_1 < (l0_2.length : Int)) = true := decide_eq_true c5
    clear c5
    by_cases c6 : 0 ≤ x6_1
    ·rw [if_pos c6] at H
     have c6b0 : decide (0 ≤ x6_1) = true := decide_eq_true c6
     clear c6
     by_cases c7 : ((rd_T49 l0_2 x6_1).f0) = 0
     ·rw [if_pos c7] at H
      have c7b0 : (((rd_T49 l0_2 x6_1).f0) == 0) = true := beq_iff_eq.mpr c7
      have c7b1 : (((rd_T49 l0_2 x6_1).f0) != 0) = false := bne_eq_false_iff_eq.mpr c7
      clear c7
      have H' := Aside0.mk H
      clear H
      have hnb8 := NB197_198.out
      have hnc8 := NB198_197.out
      have hcz9_0 := bc_ BK197.out 0
      have hcz9_1 := bc_ BK197.out 1
      have hcz9_2 := bc_ BK197.out 2
      have hfz9_0 := blk_frozen BK197.out 0
      have hfz9_1 := blk_frozen BK197.out 1
      have hfz9_2 := blk_frozen BK197.out 2
      have p199 : 0 ≤ (x6_1 : Int) := of_decide_eq_true tq_4
      have q199 : x6_1 < (l0_2.length : Int) := of_decide_eq_true tq_4
      obtain ⟨ad199, A199_4, c199_4, A199_5, c199_5, e199, hx199_0, hx199_1, hx199_2, hx199_3, hx199_4, hx199_5, hl199_4, hi199_4, hl199_5, hi199_5⟩ := at_T49 HR0_2.out x6_1 p199 q199
      cases e199
      replace hx199_0 := hx_ HB.out hx199_0
      replace hx199_1 := hx_ HB.out hx199_1
      replace hx199_2 := hx_ HB.out hx199_2
      replace hx199_3 := hx_ HB.out hx199_3
      replace hx199_4 := hx_ HB.out hx199_4
      replace hx199_5 := hx_ HB.out hx199_5
      have HR199_4 := Aside0.mk hi199_4
      have HC199_4 := Aside0.mk hl199_4
      clear hi199_4 hl199_4
      have HR199_5 := Aside0.mk hi199_5
      have HC199_5 := Aside0.mk hl199_5
      clear hi199_5 hl199_5
      replace p199 := eq_true p199
      replace q199 := eq_true q199
      go_wp2_with (first | ((with_reducible refine gate_dst (N := 7) rfl ?_); (try (refine gate_guard (by rfl) ?_; dsimp only)); refine box_event ?hg (N := 7) ?hd (cs := #[.int .i64 0, .int .i64 0, .int .i64 0, .string (⟨#[]⟩ : ByteArray), .slice none 0 0, .slice none 0 0]) (t := 49) ?hr ?_; (case hd => rfl); (case hg => rfl); (case hr => first | (go_simp; done) | (go_simp; rfl)); intro gb200 hg w10 hbox hb; have n0_ := Aside0.mk (blk_below tq_15 hb); have n1_ := Aside0.mk (blk_below tq_19 hb); have n2_ := Aside0.mk (below_step tq_17 hb); have n3_ := Aside0.mk (hbox); have n4_ := Aside0.mk (gb_ hg tq_17); have n5_ := Aside0.mk (gb_ hg tq_17); have n6_ := Aside0.mk (ltne_ hg (blk_lt tq_15)); have n7_ := Aside0.mk (gtne_ hg (blk_lt tq_15)); have n8_ := Aside0.mk (ltne_ hg (blk_lt tq_19)); have n9_ := Aside0.mk (gtne_ hg (blk_lt tq_19)); clear BK197 BK198 HB; have BK197 := n0_; have BK198 := n1_; have HB := n2_; have BK200 := n3_; have GW200 := n4_; have GE200 := n5_; have NB197_200 := n6_; have NB200_197 := n7_; have NB198_200 := n8_; have NB200_198 := n9_; clear n0_ n1_ n2_ n3_ n4_ n5_ n6_ n7_ n8_ n9_; clear hb hbox hg; have hnb11 := NB200_197.out; have hnc11 := NB197_200.out; have hnb12 := NB200_198.out; have hnc12 := NB198_200.out; have hcz13_0 := bc_ BK200.out 0; have hcz13_1 := bc_ BK200.out 1; have hcz13_2 := bc_ BK200.out 2; have hcz13_3 := bc_ BK200.out 3; have hcz13_4 := bc_ BK200.out 4; have hcz13_5 := bc_ BK200.out 5; have hfz13_0 := blk_frozen BK200.out 0; have hfz13_1 := blk_frozen BK200.out 1; have hfz13_2 := blk_frozen BK200.out 2; have hfz13_3 := blk_frozen BK200.out 3; have hfz13_4 := blk_frozen BK200.out 4; have hfz13_5 := blk_frozen BK200.out 5))
      go_roundg k1
      case measure => have := HK1.out; omega
      case rel => exact ⟨(x5_1), (wrap64 (x6_1 + 1)), tq_11, tq_11, H', ⟨by have := HK1.out; omega⟩, ⟨by (with_reducible repeat (first | refine blk_drewN ?_ _ | refine blk_drew ?_ | refine blk_alloc ?_ _)); refine blk_far ?_ NB197_200.out _; (with_reducible repeat (first | refine blk_drewN ?_ _ | refine blk_drew ?_ | refine blk_alloc ?_ _)); refine blk_far ?_ NB197_200.out _; (with_reducible repeat (first | refine blk_drewN ?_ _ | refine blk_drew ?_ | refine blk_alloc ?_ _)); refine blk_far ?_ NB197_200.out _; (with_reducible repeat (first | refine blk_drewN ?_ _ | refine blk_drew ?_ | refine blk_alloc ?_ _)); refine blk_far ?_ NB197_200.out _; (with_reducible repeat (first | refine blk_drewN ?_ _ | refine blk_drew ?_ | refine blk_alloc ?_ _)); refine blk_far ?_ NB197_200.out _; (with_reducible repeat (first | refine blk_drewN ?_ _ | refine blk_drew ?_ | refine blk_alloc ?_ _)); refine blk_far ?_ NB197_200.out _; (with_reducible repeat (first | refine blk_drewN ?_ _ | refine blk_drew ?_ | refine blk_alloc ?_ _)); exact BK197.out⟩, ⟨by (with_reducible repeat (first | refine blk_drewN ?_ _ | refine blk_drew ?_ | refine blk_alloc ?_ _)); refine blk_far ?_ NB198_200.out _; (with_reducible repeat (first | refine blk_drewN ?_ _ | refine blk_drew ?_ | refine blk_alloc ?_ _)); refine blk_far ?_ NB198_200.out _; (with_reducible repeat (first | refine blk_drewN ?_ _ | refine blk_drew ?_ | refine blk_alloc ?_ _)); refine blk_far ?_ NB198_200.out _; (with_reducible repeat (first | refine blk_drewN ?_ _ | refine blk_drew ?_ | refine blk_alloc ?_ _)); refine blk_far ?_ NB198_200.out _; (with_reducible repeat (first | refine blk_drewN ?_ _ | refine blk_drew ?_ | refine blk_alloc ?_ _)); refine blk_far ?_ NB198_200.out _; (with_reducible repeat (first | refine blk_drewN ?_ _ | refine blk_drew ?_ | refine blk_alloc ?_ _)); refine blk_far ?_ NB198_200.out _; (with_reducible repeat (first | refine blk_drewN ?_ _ | refine blk_drew ?_ | refine blk_alloc ?_ _)); exact BK198.out⟩, ⟨by repeat (first | (with_reducible first | exact HB.out | apply below_alloc | apply pw_below_drewN | apply below_drew1 | refine below_set ?_ GE197.out | refine below_set ?_ GE198.out | refine below_set ?_ GE200.out) | exact HB.out)⟩⟩
     ·rw [if_neg c7] at H
      have c7b0 : (((rd_T49 l0_2 x6_1).f0) == 0) = false := beq_eq_false_iff_ne.mpr c7
      have c7b1 : (((rd_T49 l0_2 x6_1).f0) != 0) = true := bne_iff_ne.mpr c7
      replace H := Option.bind_eq_some_iff.mp H
      obtain ⟨t201, A140, H⟩ := H
      replace H : ((spec_ItemAt.f k1 l1_0 t201).bind fun t202 => (if t202 < 0 then (some false) else (if 0 ≤ t202 then (if t202 < (l1_0.length : Int) then (if (((rd_T38 l1_0 t202).f1) != (((rd_T49 l0_2 x6_1).f0) == 2)) = true then (some false) else (if ((rd_T49 l0_2 x6_1).f0) = 1 then (if (((rd_T38 l1_0 t202).f2).size : Int) = ((rd_T49 l0_2 x6_1).f1) then (spec_Fits.l0 k1 (wrap64 (x5_1 + 1)) (wrap64 (x6_1 + 1)) a0_0 l0_1 l0_2 l1_0) else (some false)) else (spec_Fits.l0 k1 (wrap64 (x5_1 + 1)) (wrap64 (x6_1 + 1)) a0_0 l0_1 l0_2 l1_0))) else (none)) else (none)))) = some r := H
      have A14 := Aside0.mk A140
      clear A140
      replace H := Option.bind_eq_some_iff.mp H
      obtain ⟨t202, A150, H⟩ := H
      replace H : (if t202 < 0 then (some false) else (if 0 ≤ t202 then (if t202 < (l1_0.length : Int) then (if (((rd_T38 l1_0 t202).f1) != (((rd_T49 l0_2 x6_1).f0) == 2)) = true then (some false) else (if ((rd_T49 l0_2 x6_1).f0) = 1 then (if (((rd_T38 l1_0 t202).f2).size : Int) = ((rd_T49 l0_2 x6_1).f1) then (spec_Fits.l0 k1 (wrap64 (x5_1 + 1)) (wrap64 (x6_1 + 1)) a0_0 l0_1 l0_2 l1_0) else (some false)) else (spec_Fits.l0 k1 (wrap64 (x5_1 + 1)) (wrap64 (x6_1 + 1)) a0_0 l0_1 l0_2 l1_0))) else (none)) else (none))) = some r := H
      have A15 := Aside0.mk A150
      clear A150
      by_cases c16 : t202 < 0
      ·rw [if_pos c16] at H
       have c16b0 : decide (t202 < 0) = true := decide_eq_true c16
       clear c16
       obtain rfl := Option.some.inj H
       have hnb17 := NB197_198.out
       have hnc17 := NB198_197.out
       have hcz18_0 := bc_ BK197.out 0
       have hcz18_1 := bc_ BK197.out 1
       have hcz18_2 := bc_ BK197.out 2
       have hfz18_0 := blk_frozen BK197.out 0
       have hfz18_1 := blk_frozen BK197.out 1
       have hfz18_2 := blk_frozen BK197.out 2
       have p199 : 0 ≤ (x6_1 : Int) := of_decide_eq_true tq_4
       have q199 : x6_1 < (l0_2.length : Int) := of_decide_eq_true tq_4
       obtain ⟨ad199, A199_4, c199_4, A199_5, c199_5, e199, hx199_0, hx199_1, hx199_2, hx199_3, hx199_4, hx199_5, hl199_4, hi199_4, hl199_5, hi199_5⟩ := at_T49 HR0_2.out x6_1 p199 q199
       cases e199
       replace hx199_0 := hx_ HB.out hx199_0
       replace hx199_1 := hx_ HB.out hx199_1
       replace hx199_2 := hx_ HB.out hx199_2
       replace hx199_3 := hx_ HB.out hx199_3
       replace hx199_4 := hx_ HB.out hx199_4
       replace hx199_5 := hx_ HB.out hx199_5
       have HR199_4 := Aside0.mk hi199_4
       have HC199_4 := Aside0.mk hl199_4
       clear hi199_4 hl199_4
       have HR199_5 := Aside0.mk hi199_5
       have HC199_5 := Aside0.mk hl199_5
       clear hi199_5 hl199_5
       replace p199 := eq_true p199
       replace q199 := eq_true q199
       try go_wp2_with (first | ((with_reducible refine gate_dst (N := 7) rfl ?_); (try (refine gate_guard (by rfl) ?_; dsimp only)); refine box_event ?hg (N := 7) ?hd (cs := #[.int .i64 0, .int .i64 0, .int .i64 0, .string (⟨#[]⟩ : ByteArray), .slice none 0 0, .slice none 0 0]) (t := 49) ?hr ?_; (case hd => rfl); (case hg => rfl); (case hr => first | (go_simp; done) | (go_simp; rfl)); intro gb200 hg w19 hbox hb; have n0_ := Aside0.mk (blk_below tq_15 hb); have n1_ := Aside0.mk (blk_below tq_19 hb); have n2_ := Aside0.mk (below_step tq_17 hb); have n3_ := Aside0.mk (hbox); have n4_ := Aside0.mk (gb_ hg tq_17); have n5_ := Aside0.mk (gb_ hg tq_17); have n6_ := Aside0.mk (ltne_ hg (blk_lt tq_15)); have n7_ := Aside0.mk (gtne_ hg (blk_lt tq_15)); have n8_ := Aside0.mk (ltne_ hg (blk_lt tq_19)); have n9_ := Aside0.mk (gtne_ hg (blk_lt tq_19)); clear BK197 BK198 HB; have BK197 := n0_; have BK198 := n1_; have HB := n2_; have BK200 := n3_; have GW200 := n4_; have GE200 := n5_; have NB197_200 := n6_; have NB200_197 := n7_; have NB198_200 := n8_; have NB200_198 := n9_; clear n0_ n1_ n2_ n3_ n4_ n5_ n6_ n7_ n8_ n9_; clear hb hbox hg; have hnb20 := NB200_197.out; have hnc20 := NB197_200.out; have hnb21 := NB200_198.out; have hnc21 := NB198_200.out; have hcz22_0 := bc_ BK200.out 0; have hcz22_1 := bc_ BK200.out 1; have hcz22_2 := bc_ BK200.out 2; have hcz22_3 := bc_ BK200.out 3; have hcz22_4 := bc_ BK200.out 4; have hcz22_5 := bc_ BK200.out 5; have hfz22_0 := blk_frozen BK200.out 0; have hfz22_1 := blk_frozen BK200.out 1; have hfz22_2 := blk_frozen BK200.out 2; have hfz22_3 := blk_frozen BK200.out 3; have hfz22_4 := blk_frozen BK200.out 4; have hfz22_5 := blk_frozen BK200.out 5))
       have n0_ : Aside0 (((((((w19.setCell ⟨gb200, 0, none⟩ (.int .i64 ((rd_T49 l0_2 x6_1).f0))).setCell ⟨gb200, 1, none⟩ (.int .i64 ((rd_T49 l0_2 x6_1).f1))).setCell ⟨gb200, 2, none⟩ (.int .i64 ((rd_T49 l0_2 x6_1).f2))).setCell ⟨gb200, 3, none⟩ (.string ((rd_T49 l0_2 x6_1).f3))).setCell ⟨gb200, 4, none⟩ (.slice A199_4 ((rd_T49 l0_2 x6_1).f4).length c199_4)).setCell ⟨gb200, 5, none⟩ (.slice A199_5 ((rd_T49 l0_2 x6_1).f5).length c199_5)).heap[gb197]? = some (.cells #[.int .i64 a0_0, .slice A0_1 l0_1.length c0_1, .slice (some ad199) l0_2.length c0_2] 69 (0, 0))) := ⟨by (with_reducible repeat (first | refine blk_drewN ?_ _ | refine blk_drew ?_ | refine blk_alloc ?_ _)); refine blk_far ?_ NB197_200.out _; (with_reducible repeat (first | refine blk_drewN ?_ _ | refine blk_drew ?_ | refine blk_alloc ?_ _)); refine blk_far ?_ NB197_200.out _; (with_reducible repeat (first | refine blk_drewN ?_ _ | refine blk_drew ?_ | refine blk_alloc ?_ _)); refine blk_far ?_ NB197_200.out _; (with_reducible repeat (first | refine blk_drewN ?_ _ | refine blk_drew ?_ | refine blk_alloc ?_ _)); refine blk_far ?_ NB197_200.out _; (with_reducible repeat (first | refine blk_drewN ?_ _ | refine blk_drew ?_ | refine blk_alloc ?_ _)); refine blk_far ?_ NB197_200.out _; (with_reducible repeat (first | refine blk_drewN ?_ _ | refine blk_drew ?_ | refine blk_alloc ?_ _)); refine blk_far ?_ NB197_200.out _; (with_reducible repeat (first | refine blk_drewN ?_ _ | refine blk_drew ?_ | refine blk_alloc ?_ _)); exact BK197.out⟩
       have n1_ : Aside0 (((((((w19.setCell ⟨gb200, 0, none⟩ (.int .i64 ((rd_T49 l0_2 x6_1).f0))).setCell ⟨gb200, 1, none⟩ (.int .i64 ((rd_T49 l0_2 x6_1).f1))).setCell ⟨gb200, 2, none⟩ (.int .i64 ((rd_T49 l0_2 x6_1).f2))).setCell ⟨gb200, 3, none⟩ (.string ((rd_T49 l0_2 x6_1).f3))).setCell ⟨gb200, 4, none⟩ (.slice A199_4 ((rd_T49 l0_2 x6_1).f4).length c199_4)).setCell ⟨gb200, 5, none⟩ (.slice A199_5 ((rd_T49 l0_2 x6_1).f5).length c199_5)).heap[gb198]? = some (.cells #[.slice A1_0 l1_0.length c1_0] 28 (0, 0))) := ⟨by (with_reducible repeat (first | refine blk_drewN ?_ _ | refine blk_drew ?_ | refine blk_alloc ?_ _)); refine blk_far ?_ NB198_200.out _; (with_reducible repeat (first | refine blk_drewN ?_ _ | refine blk_drew ?_ | refine blk_alloc ?_ _)); refine blk_far ?_ NB198_200.out _; (with_reducible repeat (first | refine blk_drewN ?_ _ | refine blk_drew ?_ | refine blk_alloc ?_ _)); refine blk_far ?_ NB198_200.out _; (with_reducible repeat (first | refine blk_drewN ?_ _ | refine blk_drew ?_ | refine blk_alloc ?_ _)); refine blk_far ?_ NB198_200.out _; (with_reducible repeat (first | refine blk_drewN ?_ _ | refine blk_drew ?_ | refine blk_alloc ?_ _)); refine blk_far ?_ NB198_200.out _; (with_reducible repeat (first | refine blk_drewN ?_ _ | refine blk_drew ?_ | refine blk_alloc ?_ _)); refine blk_far ?_ NB198_200.out _; (with_reducible repeat (first | refine blk_drewN ?_ _ | refine blk_drew ?_ | refine blk_alloc ?_ _)); exact BK198.out⟩
       have n2_ : Aside0 (((((((w19.setCell ⟨gb200, 0, none⟩ (.int .i64 ((rd_T49 l0_2 x6_1).f0))).setCell ⟨gb200, 1, none⟩ (.int .i64 ((rd_T49 l0_2 x6_1).f1))).setCell ⟨gb200, 2, none⟩ (.int .i64 ((rd_T49 l0_2 x6_1).f2))).setCell ⟨gb200, 3, none⟩ (.string ((rd_T49 l0_2 x6_1).f3))).setCell ⟨gb200, 4, none⟩ (.slice A199_4 ((rd_T49 l0_2 x6_1).f4).length c199_4)).setCell ⟨gb200, 5, none⟩ (.slice A199_5 ((rd_T49 l0_2 x6_1).f5).length c199_5)).heap[gb200]? = some (.cells #[.int .i64 ((rd_T49 l0_2 x6_1).f0), .int .i64 ((rd_T49 l0_2 x6_1).f1), .int .i64 ((rd_T49 l0_2 x6_1).f2), .string ((rd_T49 l0_2 x6_1).f3), .slice A199_4 ((rd_T49 l0_2 x6_1).f4).length c199_4, .slice A199_5 ((rd_T49 l0_2 x6_1).f5).length c199_5] 49 (0, 0))) := ⟨by (with_reducible repeat (first | refine blk_drewN ?_ _ | refine blk_drew ?_ | refine blk_alloc ?_ _)); refine blk_put (cs := #[.int .i64 ((rd_T49 l0_2 x6_1).f0), .int .i64 ((rd_T49 l0_2 x6_1).f1), .int .i64 ((rd_T49 l0_2 x6_1).f2), .string ((rd_T49 l0_2 x6_1).f3), .slice A199_4 ((rd_T49 l0_2 x6_1).f4).length c199_4, .slice none 0 0]) ?_ 5 _ rfl; (with_reducible repeat (first | refine blk_drewN ?_ _ | refine blk_drew ?_ | refine blk_alloc ?_ _)); refine blk_put (cs := #[.int .i64 ((rd_T49 l0_2 x6_1).f0), .int .i64 ((rd_T49 l0_2 x6_1).f1), .int .i64 ((rd_T49 l0_2 x6_1).f2), .string ((rd_T49 l0_2 x6_1).f3), .slice none 0 0, .slice none 0 0]) ?_ 4 _ rfl; (with_reducible repeat (first | refine blk_drewN ?_ _ | refine blk_drew ?_ | refine blk_alloc ?_ _)); refine blk_put (cs := #[.int .i64 ((rd_T49 l0_2 x6_1).f0), .int .i64 ((rd_T49 l0_2 x6_1).f1), .int .i64 ((rd_T49 l0_2 x6_1).f2), .string (⟨#[]⟩ : ByteArray), .slice none 0 0, .slice none 0 0]) ?_ 3 _ rfl; (with_reducible repeat (first | refine blk_drewN ?_ _ | refine blk_drew ?_ | refine blk_alloc ?_ _)); refine blk_put (cs := #[.int .i64 ((rd_T49 l0_2 x6_1).f0), .int .i64 ((rd_T49 l0_2 x6_1).f1), .int .i64 0, .string (⟨#[]⟩ : ByteArray), .slice none 0 0, .slice none 0 0]) ?_ 2 _ rfl; (with_reducible repeat (first | refine blk_drewN ?_ _ | refine blk_drew ?_ | refine blk_alloc ?_ _)); refine blk_put (cs := #[.int .i64 ((rd_T49 l0_2 x6_1).f0), .int .i64 0, .int .i64 0, .string (⟨#[]⟩ : ByteArray), .slice none 0 0, .slice none 0 0]) ?_ 1 _ rfl; (with_reducible repeat (first | refine blk_drewN ?_ _ | refine blk_drew ?_ | refine blk_alloc ?_ _)); refine blk_put (cs := #[.int .i64 0, .int .i64 0, .int .i64 0, .string (⟨#[]⟩ : ByteArray), .slice none 0 0, .slice none 0 0]) ?_ 0 _ rfl; (with_reducible repeat (first | refine blk_drewN ?_ _ | refine blk_drew ?_ | refine blk_alloc ?_ _)); exact BK200.out⟩
       have n3_ : Aside0 (Below w.heap.size w ((((((w19.setCell ⟨gb200, 0, none⟩ (.int .i64 ((rd_T49 l0_2 x6_1).f0))).setCell ⟨gb200, 1, none⟩ (.int .i64 ((rd_T49 l0_2 x6_1).f1))).setCell ⟨gb200, 2, none⟩ (.int .i64 ((rd_T49 l0_2 x6_1).f2))).setCell ⟨gb200, 3, none⟩ (.string ((rd_T49 l0_2 x6_1).f3))).setCell ⟨gb200, 4, none⟩ (.slice A199_4 ((rd_T49 l0_2 x6_1).f4).length c199_4)).setCell ⟨gb200, 5, none⟩ (.slice A199_5 ((rd_T49 l0_2 x6_1).f5).length c199_5))) := ⟨by repeat (first | (with_reducible first | exact HB.out | apply below_alloc | apply pw_below_drewN | apply below_drew1 | refine below_set ?_ GE197.out | refine below_set ?_ GE198.out | refine below_set ?_ GE200.out) | exact HB.out)⟩
       (try clear BK197)
       (try clear BK198)
       (try clear BK200)
       (try clear HB)
       generalize ((((((w19.setCell ⟨gb200, 0, none⟩ (.int .i64 ((rd_T49 l0_2 x6_1).f0))).setCell ⟨gb200, 1, none⟩ (.int .i64 ((rd_T49 l0_2 x6_1).f1))).setCell ⟨gb200, 2, none⟩ (.int .i64 ((rd_T49 l0_2 x6_1).f2))).setCell ⟨gb200, 3, none⟩ (.string ((rd_T49 l0_2 x6_1).f3))).setCell ⟨gb200, 4, none⟩ (.slice A199_4 ((rd_T49 l0_2 x6_1).f4).length c199_4)).setCell ⟨gb200, 5, none⟩ (.slice A199_5 ((rd_T49 l0_2 x6_1).f5).length c199_5)) = w23 at n0_ n1_ n2_ n3_ ⊢
       have BK197 := n0_
       have BK198 := n1_
       have BK200 := n2_
       have HB := n3_
       clear n0_ n1_ n2_ n3_
       have n0_ := Aside0.mk (blk_drew BK197.out)
       have n1_ := Aside0.mk (blk_drew BK198.out)
       have n2_ := Aside0.mk (blk_drew BK200.out)
       have n3_ := Aside0.mk (below_drew1 HB.out)
       clear BK197 BK198 BK200 HB
       have BK197 := n0_
       have BK198 := n1_
       have BK200 := n2_
       have HB := n3_
       clear n0_ n1_ n2_ n3_
       refine start_ (n := 6) (S := fun w' => w'.cell? ⟨gb198, 0, none⟩ = some (.slice A1_0 l1_0.length c1_0) ∧ w'.cell? ⟨gb197, 0, none⟩ = some (.int .i64 a0_0) ∧ w'.cell? ⟨gb197, 1, none⟩ = some (.slice A0_1 l0_1.length c0_1) ∧ w'.cell? ⟨gb197, 2, none⟩ = some (.slice (some ad199) l0_2.length c0_2)) (ds := []) bq_0 (by kernel_rfl) rfl rfl ⟨(blk_cell BK198.out 0).trans rfl, (blk_cell BK197.out 0).trans rfl, (blk_cell BK197.out 1).trans rfl, (blk_cell BK197.out 2).trans rfl⟩ (fun hHeld => ?_)
       generalize w23.drew = w24 at BK197 BK198 BK200 HB hHeld ⊢
       refine yq_ (i := 2) (N := some 28) bq_6 (by kernel_rfl) ?_
       refine take_ (i := 0) (N := some 26) (v := ?_) (a' := ?_) bq_1 rfl rfl (by kernel_rfl) (fun _ _ _ h => h) (Or.inl ⟨by rfl, ?_⟩) hHeld ?_ ?_
       rotate_left
       ·rintro w' ⟨s0, s1, s2, s3⟩
        go_simp
        with_reducible rfl
       rotate_left
       ·simp only [Act.put, List.setIfInBounds_toArray, List.set_cons_zero, List.set_cons_succ, i64_w, i32_w]
        rfl
       refine take_ (i := 1) (N := some 27) (v := ?_) (a' := ?_) bq_2 rfl rfl (by kernel_rfl) (fun _ _ _ h => h) (Or.inl ⟨by rfl, ?_⟩) hHeld ?_ ?_
       rotate_left
       ·rintro w' ⟨s0, s1, s2, s3⟩
        go_simp
        with_reducible rfl
       rotate_left
       ·simp only [Act.put, List.setIfInBounds_toArray, List.set_cons_zero, List.set_cons_succ, i64_w, i32_w]
        rfl
       refine one_ (i := 3) (N := some 29) bq_3 rfl rfl (by kernel_rfl) (by decide) (fun K hK => ?_)
       refine goes_ Try.func133 (by kernel_rfl) rfl #[.agg #[.int .i64 a0_0, .slice A0_1 l0_1.length c0_1, .slice (some ad199) l0_2.length c0_2], .int .i64 x6_1] (by rfl) rfl rfl tq_1 ?_
       with_reducible refine (spec_PathTo.calls k1 a0_0 _ _ l0_1 _ _ l0_2 x6_1 t201 _ ?side1 ?side2 ?side3 ?side4 A14.out).mono ?_
       (case side1 => exact tq_6)
       (case side2 => exact HC0_1.out)
       (case side3 => exact tq_7)
       (case side4 => exact HC0_2.out)
       rintro e w25 ⟨rfl, hb⟩
       refine ⟨_, rfl, ?_⟩
       have n0_ := Aside0.mk (blk_below tq_15 hb)
       have n1_ := Aside0.mk (blk_below tq_19 hb)
       have n2_ := Aside0.mk (blk_below tq_47 hb)
       have n3_ := Aside0.mk (below_step tq_28 hb)
       clear BK197 BK198 BK200 HB
       have BK197 := n0_
       have BK198 := n1_
       have BK200 := n2_
       have HB := n3_
       clear n0_ n1_ n2_ n3_
       (try clear hb)
       (try clear hb2)
       (try clear hk)
       (try clear hi)
       refine hK.out _ _ ⟨(blk_cell BK198.out 0).trans rfl, (blk_cell BK197.out 0).trans rfl, (blk_cell BK197.out 1).trans rfl, (blk_cell BK197.out 2).trans rfl⟩ (fun hHeld => ?_)
       clear hK K
       refine norm_ (a' := ?_) ?_ ?_
       rotate_left
       ·show Act.put _ (some 29) _ = _
        simp only [Act.put, List.setIfInBounds_toArray, List.set_cons_zero, List.set_cons_succ, i64_w, i32_w]
        rfl
       refine one_ (i := 4) (N := some 30) bq_4 rfl rfl (by kernel_rfl) (by decide) (fun K hK => ?_)
       refine goes_ Try.func132 (by kernel_rfl) rfl #[.agg #[.slice A1_0 l1_0.length c1_0], .string t201] (by rfl) rfl rfl tq_1 ?_
       with_reducible refine (spec_ItemAt.calls k1 _ _ l1_0 t201 t202 _ ?side1 ?side2 A15.out).mono ?_
       (case side1 => exact tq_14)
       (case side2 => exact HC1_0.out)
       rintro e w26 ⟨rfl, hb⟩
       refine ⟨_, rfl, ?_⟩
       have n0_ := Aside0.mk (blk_below tq_15 hb)
       have n1_ := Aside0.mk (blk_below tq_19 hb)
       have n2_ := Aside0.mk (blk_below tq_47 hb)
       have n3_ := Aside0.mk (below_step tq_28 hb)
       clear BK197 BK198 BK200 HB
       have BK197 := n0_
       have BK198 := n1_
       have BK200 := n2_
       have HB := n3_
       clear n0_ n1_ n2_ n3_
       (try clear hb)
       (try clear hb2)
       (try clear hk)
       (try clear hi)
       refine hK.out _ _ ⟨(blk_cell BK198.out 0).trans rfl, (blk_cell BK197.out 0).trans rfl, (blk_cell BK197.out 1).trans rfl, (blk_cell BK197.out 2).trans rfl⟩ (fun hHeld => ?_)
       clear hK K
       refine norm_ (a' := ?_) ?_ ?_
       rotate_left
       ·show Act.put _ (some 30) _ = _
        simp only [Act.put, List.setIfInBounds_toArray, List.set_cons_zero, List.set_cons_succ, i64_w, i32_w]
        rfl
       refine yq_ (i := 5) (N := some 8) bq_5 (by kernel_rfl) ?_
       refine done_ (by kernel_rfl) ?_
       try go_wp2
       have n0_ := Aside0.mk (blk_drew BK197.out)
       have n1_ := Aside0.mk (blk_drew BK198.out)
       have n2_ := Aside0.mk (blk_drew BK200.out)
       have n3_ := Aside0.mk (below_drew1 HB.out)
       clear BK197 BK198 BK200 HB
       have BK197 := n0_
       have BK198 := n1_
       have BK200 := n2_
       have HB := n3_
       clear n0_ n1_ n2_ n3_
       refine start_ (n := 31) (S := fun w' => True) (ds := []) bq_7 (by kernel_rfl) rfl rfl trivial (fun hHeld => ?_); refine with_tabW spec_Fits.tab9 spec_Fits.bits9 (fun HT_ HW_ => ?_)
       generalize w26.drew = w27 at BK197 BK198 BK200 HB hHeld ⊢
       refine yq_ (i := 0) (N := some 31) bq_8 (any_of HT_.out (by kernel_rfl)) ?_
       refine yq_ (i := 1) (N := some 32) bq_9 (any_of HT_.out (by kernel_rfl)) ?_
       refine yq_ (i := 2) (N := some 33) bq_10 (any_of HT_.out (by kernel_rfl)) ?_
       refine uq_ (i := 3) (N := some 34) bq_11 (any_of HT_.out (by kernel_rfl)) ?_
       refine uq_ (i := 4) (N := some 35) bq_63 (any_of HT_.out (by kernel_rfl)) ?_
       refine uq_ (i := 5) (N := some 36) bq_64 (any_of HT_.out (by kernel_rfl)) ?_
       refine uq_ (i := 6) (N := some 37) bq_65 (any_of HT_.out (by kernel_rfl)) ?_
       refine uq_ (i := 7) (N := some 38) bq_66 (any_of HT_.out (by kernel_rfl)) ?_
       refine uq_ (i := 8) (N := some 39) bq_67 (any_of HT_.out (by kernel_rfl)) ?_
       refine uq_ (i := 9) (N := some 40) bq_12 (any_of HT_.out (by kernel_rfl)) ?_
       refine uq_ (i := 10) (N := some 41) bq_13 (any_of HT_.out (by kernel_rfl)) ?_
       refine uq_ (i := 11) (N := some 42) bq_14 (any_of HT_.out (by kernel_rfl)) ?_
       refine uq_ (i := 12) (N := some 43) bq_15 (any_of HT_.out (by kernel_rfl)) ?_
       refine yq_ (i := 13) (N := some 44) bq_16 (any_of HT_.out (by kernel_rfl)) ?_
       refine yq_ (i := 14) (N := some 45) bq_17 (any_of HT_.out (by kernel_rfl)) ?_
       refine uq_ (i := 15) (N := some 46) bq_18 (any_of HT_.out (by kernel_rfl)) ?_
       refine uq_ (i := 16) (N := some 47) bq_19 (any_of HT_.out (by kernel_rfl)) ?_
       refine uq_ (i := 17) (N := some 48) bq_20 (any_of HT_.out (by kernel_rfl)) ?_
       refine uq_ (i := 18) (N := some 49) bq_21 (any_of HT_.out (by kernel_rfl)) ?_
       refine uq_ (i := 19) (N := some 50) bq_22 (any_of HT_.out (by kernel_rfl)) ?_
       refine uq_ (i := 20) (N := some 51) bq_44 (any_of HT_.out (by kernel_rfl)) ?_
       refine uq_ (i := 21) (N := some 52) bq_45 (any_of HT_.out (by kernel_rfl)) ?_
       refine uq_ (i := 22) (N := some 53) bq_46 (any_of HT_.out (by kernel_rfl)) ?_
       refine uq_ (i := 23) (N := some 54) bq_47 (any_of HT_.out (by kernel_rfl)) ?_
       refine uq_ (i := 24) (N := some 55) bq_48 (any_of HT_.out (by kernel_rfl)) ?_
       refine uq_ (i := 25) (N := some 56) bq_49 (any_of HT_.out (by kernel_rfl)) ?_
       refine uq_ (i := 26) (N := some 57) bq_23 (any_of HT_.out (by kernel_rfl)) ?_
       refine uq_ (i := 27) (N := some 58) bq_24 (any_of HT_.out (by kernel_rfl)) ?_
       refine uq_ (i := 28) (N := some 59) bq_25 (any_of HT_.out (by kernel_rfl)) ?_
       refine uq_ (i := 29) (N := some 60) bq_26 (any_of HT_.out (by kernel_rfl)) ?_
       refine yq_ (i := 30) (N := some 61) bq_27 (any_of HT_.out (by kernel_rfl)) ?_
       refine done_ (done_of HT_.out (by kernel_rfl)) ?_
       try go_wp2
       go_ret
       exact ⟨by first | rfl | (simp [errW_none, errW_some] <;> rfl) | (simp [*, errW_none, errW_some] <;> rfl), by repeat (first | (with_reducible first | exact HB.out | apply below_alloc | apply pw_below_drewN | apply below_drew1 | refine below_set ?_ GE197.out | refine below_set ?_ GE198.out | refine below_set ?_ GE200.out) | exact HB.out)⟩
      ·rw [if_neg c16] at H
       have c16b0 : decide (t202 < 0) = false := decide_eq_false c16
       clear c16
       by_cases c28 : 0 ≤ t202
       ·rw [if_pos c28] at H
        have c28b0 : decide (0 ≤ t202) = true := decide_eq_true c28
        clear c28
        by_cases c29 : t202 < (l1_0.length : Int)
        ·rw [if_pos c29] at H
         have c29b0 : decide (t202 < (l1_0.length : Int)) = true := decide_eq_true c29
         clear c29
         by_cases c30 : (((rd_T38 l1_0 t202).f1) != (((rd_T49 l0_2 x6_1).f0) == 2)) = true
         ·rw [if_pos c30] at H
          have c30b0 : (((rd_T38 l1_0 t202).f1) != (((rd_T49 l0_2 x6_1).f0) == 2)) = true := c30
          (try (have c30b1 : decide (((rd_T38 l1_0 t202).f1) = (((rd_T49 l0_2 x6_1).f0) == 2)) = false := by simpa using c30))
          (try (have c30b2 : (((rd_T38 l1_0 t202).f1) == (((rd_T49 l0_2 x6_1).f0) == 2)) = false := by simpa using c30))
          (try (have c30b3 : ¬ (((rd_T38 l1_0 t202).f1) = (((rd_T49 l0_2 x6_1).f0) == 2)) := by simpa using c30))
          clear c30
          obtain rfl := Option.some.inj H
          have hnb31 := NB197_198.out
          have hnc31 := NB198_197.out
          have hcz32_0 := bc_ BK197.out 0
          have hcz32_1 := bc_ BK197.out 1
          have hcz32_2 := bc_ BK197.out 2
          have hfz32_0 := blk_frozen BK197.out 0
          have hfz32_1 := blk_frozen BK197.out 1
          have hfz32_2 := blk_frozen BK197.out 2
          have p199 : 0 ≤ (x6_1 : Int) := of_decide_eq_true tq_4
          have q199 : x6_1 < (l0_2.length : Int) := of_decide_eq_true tq_4
          obtain ⟨ad199, A199_4, c199_4, A199_5, c199_5, e199, hx199_0, hx199_1, hx199_2, hx199_3, hx199_4, hx199_5, hl199_4, hi199_4, hl199_5, hi199_5⟩ := at_T49 HR0_2.out x6_1 p199 q199
          cases e199
          replace hx199_0 := hx_ HB.out hx199_0
          replace hx199_1 := hx_ HB.out hx199_1
          replace hx199_2 := hx_ HB.out hx199_2
          replace hx199_3 := hx_ HB.out hx199_3
          replace hx199_4 := hx_ HB.out hx199_4
          replace hx199_5 := hx_ HB.out hx199_5
          have HR199_4 := Aside0.mk hi199_4
          have HC199_4 := Aside0.mk hl199_4
          clear hi199_4 hl199_4
          have HR199_5 := Aside0.mk hi199_5
          have HC199_5 := Aside0.mk hl199_5
          clear hi199_5 hl199_5
          replace p199 := eq_true p199
          replace q199 := eq_true q199
          try go_wp2_with (first | ((with_reducible refine gate_dst (N := 7) rfl ?_); (try (refine gate_guard (by rfl) ?_; dsimp only)); refine box_event ?hg (N := 7) ?hd (cs := #[.int .i64 0, .int .i64 0, .int .i64 0, .string (⟨#[]⟩ : ByteArray), .slice none 0 0, .slice none 0 0]) (t := 49) ?hr ?_; (case hd => rfl); (case hg => rfl); (case hr => first | (go_simp; done) | (go_simp; rfl)); intro gb200 hg w33 hbox hb; have n0_ := Aside0.mk (blk_below tq_15 hb); have n1_ := Aside0.mk (blk_below tq_19 hb); have n2_ := Aside0.mk (below_step tq_17 hb); have n3_ := Aside0.mk (hbox); have n4_ := Aside0.mk (gb_ hg tq_17); have n5_ := Aside0.mk (gb_ hg tq_17); have n6_ := Aside0.mk (ltne_ hg (blk_lt tq_15)); have n7_ := Aside0.mk (gtne_ hg (blk_lt tq_15)); have n8_ := Aside0.mk (ltne_ hg (blk_lt tq_19)); have n9_ := Aside0.mk (gtne_ hg (blk_lt tq_19)); clear BK197 BK198 HB; have BK197 := n0_; have BK198 := n1_; have HB := n2_; have BK200 := n3_; have GW200 := n4_; have GE200 := n5_; have NB197_200 := n6_; have NB200_197 := n7_; have NB198_200 := n8_; have NB200_198 := n9_; clear n0_ n1_ n2_ n3_ n4_ n5_ n6_ n7_ n8_ n9_; clear hb hbox hg; have hnb34 := NB200_197.out; have hnc34 := NB197_200.out; have hnb35 := NB200_198.out; have hnc35 := NB198_200.out; have hcz36_0 := bc_ BK200.out 0; have hcz36_1 := bc_ BK200.out 1; have hcz36_2 := bc_ BK200.out 2; have hcz36_3 := bc_ BK200.out 3; have hcz36_4 := bc_ BK200.out 4; have hcz36_5 := bc_ BK200.out 5; have hfz36_0 := blk_frozen BK200.out 0; have hfz36_1 := blk_frozen BK200.out 1; have hfz36_2 := blk_frozen BK200.out 2; have hfz36_3 := blk_frozen BK200.out 3; have hfz36_4 := blk_frozen BK200.out 4; have hfz36_5 := blk_frozen BK200.out 5))
          have n0_ : Aside0 (((((((w33.setCell ⟨gb200, 0, none⟩ (.int .i64 ((rd_T49 l0_2 x6_1).f0))).setCell ⟨gb200, 1, none⟩ (.int .i64 ((rd_T49 l0_2 x6_1).f1))).setCell ⟨gb200, 2, none⟩ (.int .i64 ((rd_T49 l0_2 x6_1).f2))).setCell ⟨gb200, 3, none⟩ (.string ((rd_T49 l0_2 x6_1).f3))).setCell ⟨gb200, 4, none⟩ (.slice A199_4 ((rd_T49 l0_2 x6_1).f4).length c199_4)).setCell ⟨gb200, 5, none⟩ (.slice A199_5 ((rd_T49 l0_2 x6_1).f5).length c199_5)).heap[gb197]? = some (.cells #[.int .i64 a0_0, .slice A0_1 l0_1.length c0_1, .slice (some ad199) l0_2.length c0_2] 69 (0, 0))) := ⟨by (with_reducible repeat (first | refine blk_drewN ?_ _ | refine blk_drew ?_ | refine blk_alloc ?_ _)); refine blk_far ?_ NB197_200.out _; (with_reducible repeat (first | refine blk_drewN ?_ _ | refine blk_drew ?_ | refine blk_alloc ?_ _)); refine blk_far ?_ NB197_200.out _; (with_reducible repeat (first | refine blk_drewN ?_ _ | refine blk_drew ?_ | refine blk_alloc ?_ _)); refine blk_far ?_ NB197_200.out _; (with_reducible repeat (first | refine blk_drewN ?_ _ | refine blk_drew ?_ | refine blk_alloc ?_ _)); refine blk_far ?_ NB197_200.out _; (with_reducible repeat (first | refine blk_drewN ?_ _ | refine blk_drew ?_ | refine blk_alloc ?_ _)); refine blk_far ?_ NB197_200.out _; (with_reducible repeat (first | refine blk_drewN ?_ _ | refine blk_drew ?_ | refine blk_alloc ?_ _)); refine blk_far ?_ NB197_200.out _; (with_reducible repeat (first | refine blk_drewN ?_ _ | refine blk_drew ?_ | refine blk_alloc ?_ _)); exact BK197.out⟩
          have n1_ : Aside0 (((((((w33.setCell ⟨gb200, 0, none⟩ (.int .i64 ((rd_T49 l0_2 x6_1).f0))).setCell ⟨gb200, 1, none⟩ (.int .i64 ((rd_T49 l0_2 x6_1).f1))).setCell ⟨gb200, 2, none⟩ (.int .i64 ((rd_T49 l0_2 x6_1).f2))).setCell ⟨gb200, 3, none⟩ (.string ((rd_T49 l0_2 x6_1).f3))).setCell ⟨gb200, 4, none⟩ (.slice A199_4 ((rd_T49 l0_2 x6_1).f4).length c199_4)).setCell ⟨gb200, 5, none⟩ (.slice A199_5 ((rd_T49 l0_2 x6_1).f5).length c199_5)).heap[gb198]? = some (.cells #[.slice A1_0 l1_0.length c1_0] 28 (0, 0))) := ⟨by (with_reducible repeat (first | refine blk_drewN ?_ _ | refine blk_drew ?_ | refine blk_alloc ?_ _)); refine blk_far ?_ NB198_200.out _; (with_reducible repeat (first | refine blk_drewN ?_ _ | refine blk_drew ?_ | refine blk_alloc ?_ _)); refine blk_far ?_ NB198_200.out _; (with_reducible repeat (first | refine blk_drewN ?_ _ | refine blk_drew ?_ | refine blk_alloc ?_ _)); refine blk_far ?_ NB198_200.out _; (with_reducible repeat (first | refine blk_drewN ?_ _ | refine blk_drew ?_ | refine blk_alloc ?_ _)); refine blk_far ?_ NB198_200.out _; (with_reducible repeat (first | refine blk_drewN ?_ _ | refine blk_drew ?_ | refine blk_alloc ?_ _)); refine blk_far ?_ NB198_200.out _; (with_reducible repeat (first | refine blk_drewN ?_ _ | refine blk_drew ?_ | refine blk_alloc ?_ _)); refine blk_far ?_ NB198_200.out _; (with_reducible repeat (first | refine blk_drewN ?_ _ | refine blk_drew ?_ | refine blk_alloc ?_ _)); exact BK198.out⟩
          have n2_ : Aside0 (((((((w33.setCell ⟨gb200, 0, none⟩ (.int .i64 ((rd_T49 l0_2 x6_1).f0))).setCell ⟨gb200, 1, none⟩ (.int .i64 ((rd_T49 l0_2 x6_1).f1))).setCell ⟨gb200, 2, none⟩ (.int .i64 ((rd_T49 l0_2 x6_1).f2))).setCell ⟨gb200, 3, none⟩ (.string ((rd_T49 l0_2 x6_1).f3))).setCell ⟨gb200, 4, none⟩ (.slice A199_4 ((rd_T49 l0_2 x6_1).f4).length c199_4)).setCell ⟨gb200, 5, none⟩ (.slice A199_5 ((rd_T49 l0_2 x6_1).f5).length c199_5)).heap[gb200]? = some (.cells #[.int .i64 ((rd_T49 l0_2 x6_1).f0), .int .i64 ((rd_T49 l0_2 x6_1).f1), .int .i64 ((rd_T49 l0_2 x6_1).f2), .string ((rd_T49 l0_2 x6_1).f3), .slice A199_4 ((rd_T49 l0_2 x6_1).f4).length c199_4, .slice A199_5 ((rd_T49 l0_2 x6_1).f5).length c199_5] 49 (0, 0))) := ⟨by (with_reducible repeat (first | refine blk_drewN ?_ _ | refine blk_drew ?_ | refine blk_alloc ?_ _)); refine blk_put (cs := #[.int .i64 ((rd_T49 l0_2 x6_1).f0), .int .i64 ((rd_T49 l0_2 x6_1).f1), .int .i64 ((rd_T49 l0_2 x6_1).f2), .string ((rd_T49 l0_2 x6_1).f3), .slice A199_4 ((rd_T49 l0_2 x6_1).f4).length c199_4, .slice none 0 0]) ?_ 5 _ rfl; (with_reducible repeat (first | refine blk_drewN ?_ _ | refine blk_drew ?_ | refine blk_alloc ?_ _)); refine blk_put (cs := #[.int .i64 ((rd_T49 l0_2 x6_1).f0), .int .i64 ((rd_T49 l0_2 x6_1).f1), .int .i64 ((rd_T49 l0_2 x6_1).f2), .string ((rd_T49 l0_2 x6_1).f3), .slice none 0 0, .slice none 0 0]) ?_ 4 _ rfl; (with_reducible repeat (first | refine blk_drewN ?_ _ | refine blk_drew ?_ | refine blk_alloc ?_ _)); refine blk_put (cs := #[.int .i64 ((rd_T49 l0_2 x6_1).f0), .int .i64 ((rd_T49 l0_2 x6_1).f1), .int .i64 ((rd_T49 l0_2 x6_1).f2), .string (⟨#[]⟩ : ByteArray), .slice none 0 0, .slice none 0 0]) ?_ 3 _ rfl; (with_reducible repeat (first | refine blk_drewN ?_ _ | refine blk_drew ?_ | refine blk_alloc ?_ _)); refine blk_put (cs := #[.int .i64 ((rd_T49 l0_2 x6_1).f0), .int .i64 ((rd_T49 l0_2 x6_1).f1), .int .i64 0, .string (⟨#[]⟩ : ByteArray), .slice none 0 0, .slice none 0 0]) ?_ 2 _ rfl; (with_reducible repeat (first | refine blk_drewN ?_ _ | refine blk_drew ?_ | refine blk_alloc ?_ _)); refine blk_put (cs := #[.int .i64 ((rd_T49 l0_2 x6_1).f0), .int .i64 0, .int .i64 0, .string (⟨#[]⟩ : ByteArray), .slice none 0 0, .slice none 0 0]) ?_ 1 _ rfl; (with_reducible repeat (first | refine blk_drewN ?_ _ | refine blk_drew ?_ | refine blk_alloc ?_ _)); refine blk_put (cs := #[.int .i64 0, .int .i64 0, .int .i64 0, .string (⟨#[]⟩ : ByteArray), .slice none 0 0, .slice none 0 0]) ?_ 0 _ rfl; (with_reducible repeat (first | refine blk_drewN ?_ _ | refine blk_drew ?_ | refine blk_alloc ?_ _)); exact BK200.out⟩
          have n3_ : Aside0 (Below w.heap.size w ((((((w33.setCell ⟨gb200, 0, none⟩ (.int .i64 ((rd_T49 l0_2 x6_1).f0))).setCell ⟨gb200, 1, none⟩ (.int .i64 ((rd_T49 l0_2 x6_1).f1))).setCell ⟨gb200, 2, none⟩ (.int .i64 ((rd_T49 l0_2 x6_1).f2))).setCell ⟨gb200, 3, none⟩ (.string ((rd_T49 l0_2 x6_1).f3))).setCell ⟨gb200, 4, none⟩ (.slice A199_4 ((rd_T49 l0_2 x6_1).f4).length c199_4)).setCell ⟨gb200, 5, none⟩ (.slice A199_5 ((rd_T49 l0_2 x6_1).f5).length c199_5))) := ⟨by repeat (first | (with_reducible first | exact HB.out | apply below_alloc | apply pw_below_drewN | apply below_drew1 | refine below_set ?_ GE197.out | refine below_set ?_ GE198.out | refine below_set ?_ GE200.out) | exact HB.out)⟩
          (try clear BK197)
          (try clear BK198)
          (try clear BK200)
          (try clear HB)
          generalize ((((((w33.setCell ⟨gb200, 0, none⟩ (.int .i64 ((rd_T49 l0_2 x6_1).f0))).setCell ⟨gb200, 1, none⟩ (.int .i64 ((rd_T49 l0_2 x6_1).f1))).setCell ⟨gb200, 2, none⟩ (.int .i64 ((rd_T49 l0_2 x6_1).f2))).setCell ⟨gb200, 3, none⟩ (.string ((rd_T49 l0_2 x6_1).f3))).setCell ⟨gb200, 4, none⟩ (.slice A199_4 ((rd_T49 l0_2 x6_1).f4).length c199_4)).setCell ⟨gb200, 5, none⟩ (.slice A199_5 ((rd_T49 l0_2 x6_1).f5).length c199_5)) = w37 at n0_ n1_ n2_ n3_ ⊢
          have BK197 := n0_
          have BK198 := n1_
          have BK200 := n2_
          have HB := n3_
          clear n0_ n1_ n2_ n3_
          have n0_ := Aside0.mk (blk_drew BK197.out)
          have n1_ := Aside0.mk (blk_drew BK198.out)
          have n2_ := Aside0.mk (blk_drew BK200.out)
          have n3_ := Aside0.mk (below_drew1 HB.out)
          clear BK197 BK198 BK200 HB
          have BK197 := n0_
          have BK198 := n1_
          have BK200 := n2_
          have HB := n3_
          clear n0_ n1_ n2_ n3_
          refine start_ (n := 6) (S := fun w' => w'.cell? ⟨gb198, 0, none⟩ = some (.slice A1_0 l1_0.length c1_0) ∧ w'.cell? ⟨gb197, 0, none⟩ = some (.int .i64 a0_0) ∧ w'.cell? ⟨gb197, 1, none⟩ = some (.slice A0_1 l0_1.length c0_1) ∧ w'.cell? ⟨gb197, 2, none⟩ = some (.slice (some ad199) l0_2.length c0_2)) (ds := []) bq_0 (by kernel_rfl) rfl rfl ⟨(blk_cell BK198.out 0).trans rfl, (blk_cell BK197.out 0).trans rfl, (blk_cell BK197.out 1).trans rfl, (blk_cell BK197.out 2).trans rfl⟩ (fun hHeld => ?_)
          generalize w37.drew = w38 at BK197 BK198 BK200 HB hHeld ⊢
          refine yq_ (i := 2) (N := some 28) bq_6 (by kernel_rfl) ?_
          refine take_ (i := 0) (N := some 26) (v := ?_) (a' := ?_) bq_1 rfl rfl (by kernel_rfl) (fun _ _ _ h => h) (Or.inl ⟨by rfl, ?_⟩) hHeld ?_ ?_
          rotate_left
          ·rintro w' ⟨s0, s1, s2, s3⟩
           go_simp
           with_reducible rfl
          rotate_left
          ·simp only [Act.put, List.setIfInBounds_toArray, List.set_cons_zero, List.set_cons_succ, i64_w, i32_w]
           rfl
          refine take_ (i := 1) (N := some 27) (v := ?_) (a' := ?_) bq_2 rfl rfl (by kernel_rfl) (fun _ _ _ h => h) (Or.inl ⟨by rfl, ?_⟩) hHeld ?_ ?_
          rotate_left
          ·rintro w' ⟨s0, s1, s2, s3⟩
           go_simp
           with_reducible rfl
          rotate_left
          ·simp only [Act.put, List.setIfInBounds_toArray, List.set_cons_zero, List.set_cons_succ, i64_w, i32_w]
           rfl
          refine one_ (i := 3) (N := some 29) bq_3 rfl rfl (by kernel_rfl) (by decide) (fun K hK => ?_)
          refine goes_ Try.func133 (by kernel_rfl) rfl #[.agg #[.int .i64 a0_0, .slice A0_1 l0_1.length c0_1, .slice (some ad199) l0_2.length c0_2], .int .i64 x6_1] (by rfl) rfl rfl tq_1 ?_
          with_reducible refine (spec_PathTo.calls k1 a0_0 _ _ l0_1 _ _ l0_2 x6_1 t201 _ ?side1 ?side2 ?side3 ?side4 A14.out).mono ?_
          (case side1 => exact tq_6)
          (case side2 => exact HC0_1.out)
          (case side3 => exact tq_7)
          (case side4 => exact HC0_2.out)
          rintro e w39 ⟨rfl, hb⟩
          refine ⟨_, rfl, ?_⟩
          have n0_ := Aside0.mk (blk_below tq_15 hb)
          have n1_ := Aside0.mk (blk_below tq_19 hb)
          have n2_ := Aside0.mk (blk_below tq_47 hb)
          have n3_ := Aside0.mk (below_step tq_28 hb)
          clear BK197 BK198 BK200 HB
          have BK197 := n0_
          have BK198 := n1_
          have BK200 := n2_
          have HB := n3_
          clear n0_ n1_ n2_ n3_
          (try clear hb)
          (try clear hb2)
          (try clear hk)
          (try clear hi)
          refine hK.out _ _ ⟨(blk_cell BK198.out 0).trans rfl, (blk_cell BK197.out 0).trans rfl, (blk_cell BK197.out 1).trans rfl, (blk_cell BK197.out 2).trans rfl⟩ (fun hHeld => ?_)
          clear hK K
          refine norm_ (a' := ?_) ?_ ?_
          rotate_left
          ·show Act.put _ (some 29) _ = _
           simp only [Act.put, List.setIfInBounds_toArray, List.set_cons_zero, List.set_cons_succ, i64_w, i32_w]
           rfl
          refine one_ (i := 4) (N := some 30) bq_4 rfl rfl (by kernel_rfl) (by decide) (fun K hK => ?_)
          refine goes_ Try.func132 (by kernel_rfl) rfl #[.agg #[.slice A1_0 l1_0.length c1_0], .string t201] (by rfl) rfl rfl tq_1 ?_
          with_reducible refine (spec_ItemAt.calls k1 _ _ l1_0 t201 t202 _ ?side1 ?side2 A15.out).mono ?_
          (case side1 => exact tq_14)
          (case side2 => exact HC1_0.out)
          rintro e w40 ⟨rfl, hb⟩
          refine ⟨_, rfl, ?_⟩
          have n0_ := Aside0.mk (blk_below tq_15 hb)
          have n1_ := Aside0.mk (blk_below tq_19 hb)
          have n2_ := Aside0.mk (blk_below tq_47 hb)
          have n3_ := Aside0.mk (below_step tq_28 hb)
          clear BK197 BK198 BK200 HB
          have BK197 := n0_
          have BK198 := n1_
          have BK200 := n2_
          have HB := n3_
          clear n0_ n1_ n2_ n3_
          (try clear hb)
          (try clear hb2)
          (try clear hk)
          (try clear hi)
          refine hK.out _ _ ⟨(blk_cell BK198.out 0).trans rfl, (blk_cell BK197.out 0).trans rfl, (blk_cell BK197.out 1).trans rfl, (blk_cell BK197.out 2).trans rfl⟩ (fun hHeld => ?_)
          clear hK K
          refine norm_ (a' := ?_) ?_ ?_
          rotate_left
          ·show Act.put _ (some 30) _ = _
           simp only [Act.put, List.setIfInBounds_toArray, List.set_cons_zero, List.set_cons_succ, i64_w, i32_w]
           rfl
          refine yq_ (i := 5) (N := some 8) bq_5 (by kernel_rfl) ?_
          refine done_ (by kernel_rfl) ?_
          try go_wp2
          have n0_ := Aside0.mk (blk_drew BK197.out)
          have n1_ := Aside0.mk (blk_drew BK198.out)
          have n2_ := Aside0.mk (blk_drew BK200.out)
          have n3_ := Aside0.mk (below_drew1 HB.out)
          clear BK197 BK198 BK200 HB
          have BK197 := n0_
          have BK198 := n1_
          have BK200 := n2_
          have HB := n3_
          clear n0_ n1_ n2_ n3_
          have p203 : 0 ≤ (t202 : Int) := of_decide_eq_true tq_4
          have q203 : t202 < (l1_0.length : Int) := of_decide_eq_true tq_4
          obtain ⟨ad203, e203, hx203_0, hx203_1, hx203_2⟩ := at_T38 HR1_0.out t202 p203 q203
          have hw203_2 := hx203_2
          have hw203_1 := hx203_1
          have hw203_0 := hx203_0
          cases e203
          replace hx203_0 := hx_ HB.out hx203_0
          replace hx203_1 := hx_ HB.out hx203_1
          replace hx203_2 := hx_ HB.out hx203_2
          replace p203 := eq_true p203
          replace q203 := eq_true q203
          refine start_ (n := 31) (S := fun w' => w'.cell? ⟨gb198, 0, none⟩ = some (.slice (some ad203) l1_0.length c1_0) ∧ w'.cell? ⟨gb200, 0, none⟩ = some (.int .i64 ((rd_T49 l0_2 x6_1).f0)) ∧ w'.cell? ⟨gb200, 1, none⟩ = some (.int .i64 ((rd_T49 l0_2 x6_1).f1)) ∧ w'.cell? ⟨gb200, 2, none⟩ = some (.int .i64 ((rd_T49 l0_2 x6_1).f2)) ∧ w'.cell? ⟨gb200, 3, none⟩ = some (.string ((rd_T49 l0_2 x6_1).f3)) ∧ w'.cell? ⟨gb200, 4, none⟩ = some (.slice A199_4 ((rd_T49 l0_2 x6_1).f4).length c199_4) ∧ w'.cell? ⟨gb200, 5, none⟩ = some (.slice A199_5 ((rd_T49 l0_2 x6_1).f5).length c199_5) ∧ w'.cell? (ad203.add ((t202).toNat * 3)) = some (.string ((rd_T38 l1_0 t202).f0)) ∧ w'.cell? ⟨(ad203.add ((t202).toNat * 3)).block, (ad203.add ((t202).toNat * 3)).off + 1, none⟩ = some (.bool ((rd_T38 l1_0 t202).f1)) ∧ w'.cell? ⟨(ad203.add ((t202).toNat * 3)).block, (ad203.add ((t202).toNat * 3)).off + 2, none⟩ = some (.string ((rd_T38 l1_0 t202).f2))) (ds := []) bq_7 (by kernel_rfl) rfl rfl ⟨(blk_cell BK198.out 0).trans rfl, (blk_cell BK200.out 0).trans rfl, (blk_cell BK200.out 1).trans rfl, (blk_cell BK200.out 2).trans rfl, (blk_cell BK200.out 3).trans rfl, (blk_cell BK200.out 4).trans rfl, (blk_cell BK200.out 5).trans rfl, ((HB.out.cell (World.block_lt_of_cell? w _ hw203_0)).trans hw203_0), ((HB.out.cell (World.block_lt_of_cell? w _ hw203_1)).trans hw203_1), ((HB.out.cell (World.block_lt_of_cell? w _ hw203_2)).trans hw203_2)⟩ (fun hHeld => ?_); refine with_tabW spec_Fits.tab9 spec_Fits.bits9 (fun HT_ HW_ => ?_)
          generalize w40.drew = w41 at BK197 BK198 BK200 HB hx203_0 hx203_1 hx203_2 hHeld ⊢
          refine yq_ (i := 0) (N := some 31) bq_8 (any_of HT_.out (by kernel_rfl)) ?_
          refine yq_ (i := 1) (N := some 32) bq_9 (any_of HT_.out (by kernel_rfl)) ?_
          refine yq_ (i := 2) (N := some 33) bq_10 (any_of HT_.out (by kernel_rfl)) ?_
          refine yq_ (i := 3) (N := some 34) bq_11 (any_of HT_.out (by kernel_rfl)) ?_
          refine yq_ (i := 5) (N := some 36) bq_39 (any_of HT_.out (by kernel_rfl)) ?_
          refine yq_ (i := 9) (N := some 40) bq_40 (any_of HT_.out (by kernel_rfl)) ?_
          refine take_ (i := 4) (N := some 35) (v := ?_) (a' := ?_) bq_41 rfl rfl (take_ofW HT_.out HW_.out (by kernel_rfl)) (fun _ _ _ h => h) (Or.inl ⟨by rfl, ?_⟩) hHeld ?_ ?_
          rotate_left
          ·rintro w' ⟨s0, s1, s2, s3, s4, s5, s6, s7, s8, s9⟩
           go_simp
           with_reducible rfl
          rotate_left
          ·simp only [Act.put, List.setIfInBounds_toArray, List.set_cons_zero, List.set_cons_succ, i64_w, i32_w]
           rfl
          refine yq_ (i := 6) (N := some 37) bq_42 (any_of HT_.out (by kernel_rfl)) ?_
          refine yq_ (i := 7) (N := some 38) bq_43 (any_of HT_.out (by kernel_rfl)) ?_
          refine take_ (i := 8) (N := some 39) (v := ?_) (a' := ?_) bq_12 rfl rfl (take_ofW HT_.out HW_.out (by kernel_rfl)) (fun _ _ _ h => h) (Or.inl ⟨by rfl, ?_⟩) hHeld ?_ ?_
          rotate_left
          ·rintro w' ⟨s0, s1, s2, s3, s4, s5, s6, s7, s8, s9⟩
           go_simp
           with_reducible rfl
          rotate_left
          ·simp only [Act.put, List.setIfInBounds_toArray, List.set_cons_zero, List.set_cons_succ, i64_w, i32_w]
           rfl
          refine take_ (i := 10) (N := some 41) (v := ?_) (a' := ?_) bq_13 rfl rfl (take_ofW HT_.out HW_.out (by kernel_rfl)) (fun _ _ _ h => h) (Or.inl ⟨by rfl, ?_⟩) hHeld ?_ ?_
          rotate_left
          ·rintro w' ⟨s0, s1, s2, s3, s4, s5, s6, s7, s8, s9⟩
           go_simp
           with_reducible rfl
          rotate_left
          ·simp only [Act.put, List.setIfInBounds_toArray, List.set_cons_zero, List.set_cons_succ, i64_w, i32_w]
           rfl
          refine yq_ (i := 11) (N := some 42) bq_14 (any_of HT_.out (by kernel_rfl)) ?_
          refine yq_ (i := 12) (N := some 43) bq_15 (any_of HT_.out (by kernel_rfl)) ?_
          refine yq_ (i := 13) (N := some 44) bq_16 (any_of HT_.out (by kernel_rfl)) ?_
          refine yq_ (i := 14) (N := some 45) bq_17 (any_of HT_.out (by kernel_rfl)) ?_
          refine uq_ (i := 15) (N := some 46) bq_18 (any_of HT_.out (by kernel_rfl)) ?_
          refine uq_ (i := 16) (N := some 47) bq_19 (any_of HT_.out (by kernel_rfl)) ?_
          refine uq_ (i := 17) (N := some 48) bq_20 (any_of HT_.out (by kernel_rfl)) ?_
          refine uq_ (i := 18) (N := some 49) bq_21 (any_of HT_.out (by kernel_rfl)) ?_
          refine uq_ (i := 19) (N := some 50) bq_22 (any_of HT_.out (by kernel_rfl)) ?_
          refine uq_ (i := 20) (N := some 51) bq_44 (any_of HT_.out (by kernel_rfl)) ?_
          refine uq_ (i := 21) (N := some 52) bq_45 (any_of HT_.out (by kernel_rfl)) ?_
          refine uq_ (i := 22) (N := some 53) bq_46 (any_of HT_.out (by kernel_rfl)) ?_
          refine uq_ (i := 23) (N := some 54) bq_47 (any_of HT_.out (by kernel_rfl)) ?_
          refine uq_ (i := 24) (N := some 55) bq_48 (any_of HT_.out (by kernel_rfl)) ?_
          refine uq_ (i := 25) (N := some 56) bq_49 (any_of HT_.out (by kernel_rfl)) ?_
          refine uq_ (i := 26) (N := some 57) bq_23 (any_of HT_.out (by kernel_rfl)) ?_
          refine uq_ (i := 27) (N := some 58) bq_24 (any_of HT_.out (by kernel_rfl)) ?_
          refine uq_ (i := 28) (N := some 59) bq_25 (any_of HT_.out (by kernel_rfl)) ?_
          refine uq_ (i := 29) (N := some 60) bq_26 (any_of HT_.out (by kernel_rfl)) ?_
          refine yq_ (i := 30) (N := some 61) bq_27 (any_of HT_.out (by kernel_rfl)) ?_
          refine done_ (done_of HT_.out (by kernel_rfl)) ?_
          try go_wp2
          go_ret
          exact ⟨by first | rfl | (simp [errW_none, errW_some] <;> rfl) | (simp [*, errW_none, errW_some] <;> rfl), by repeat (first | (with_reducible first | exact HB.out | apply below_alloc | apply pw_below_drewN | apply below_drew1 | refine below_set ?_ GE197.out | refine below_set ?_ GE198.out | refine below_set ?_ GE200.out) | exact HB.out)⟩
         ·rw [if_neg c30] at H
          have c30b0 : (((rd_T38 l1_0 t202).f1) != (((rd_T49 l0_2 x6_1).f0) == 2)) = false := by simpa using c30
          (try (have c30b1 : decide (((rd_T38 l1_0 t202).f1) = (((rd_T49 l0_2 x6_1).f0) == 2)) = true := by simpa using c30))
          (try (have c30b2 : (((rd_T38 l1_0 t202).f1) == (((rd_T49 l0_2 x6_1).f0) == 2)) = true := by simpa using c30))
          clear c30
          by_cases c42 : ((rd_T49 l0_2 x6_1).f0) = 1
          ·rw [if_pos c42] at H
           have c42b0 : (((rd_T49 l0_2 x6_1).f0) == 1) = true := beq_iff_eq.mpr c42
           have c42b1 : (((rd_T49 l0_2 x6_1).f0) != 1) = false := bne_eq_false_iff_eq.mpr c42
           clear c42
           by_cases c43 : (((rd_T38 l1_0 t202).f2).size : Int) = ((rd_T49 l0_2 x6_1).f1)
           ·rw [if_pos c43] at H
            have c43b0 : ((((rd_T38 l1_0 t202).f2).size : Int) == ((rd_T49 l0_2 x6_1).f1)) = true := beq_iff_eq.mpr c43
            have c43b1 : ((((rd_T38 l1_0 t202).f2).size : Int) != ((rd_T49 l0_2 x6_1).f1)) = false := bne_eq_false_iff_eq.mpr c43
            clear c43
            have H' := Aside0.mk H
            clear H
            have hnb44 := NB197_198.out
            have hnc44 := NB198_197.out
            have hcz45_0 := bc_ BK197.out 0
            have hcz45_1 := bc_ BK197.out 1
            have hcz45_2 := bc_ BK197.out 2
            have hfz45_0 := blk_frozen BK197.out 0
            have hfz45_1 := blk_frozen BK197.out 1
            have hfz45_2 := blk_frozen BK197.out 2
            have p199 : 0 ≤ (x6_1 : Int) := of_decide_eq_true tq_4
            have q199 : x6_1 < (l0_2.length : Int) := of_decide_eq_true tq_4
            obtain ⟨ad199, A199_4, c199_4, A199_5, c199_5, e199, hx199_0, hx199_1, hx199_2, hx199_3, hx199_4, hx199_5, hl199_4, hi199_4, hl199_5, hi199_5⟩ := at_T49 HR0_2.out x6_1 p199 q199
            cases e199
            replace hx199_0 := hx_ HB.out hx199_0
            replace hx199_1 := hx_ HB.out hx199_1
            replace hx199_2 := hx_ HB.out hx199_2
            replace hx199_3 := hx_ HB.out hx199_3
            replace hx199_4 := hx_ HB.out hx199_4
            replace hx199_5 := hx_ HB.out hx199_5
            have HR199_4 := Aside0.mk hi199_4
            have HC199_4 := Aside0.mk hl199_4
            clear hi199_4 hl199_4
            have HR199_5 := Aside0.mk hi199_5
            have HC199_5 := Aside0.mk hl199_5
            clear hi199_5 hl199_5
            replace p199 := eq_true p199
            replace q199 := eq_true q199
            try go_wp2_with (first | ((with_reducible refine gate_dst (N := 7) rfl ?_); (try (refine gate_guard (by rfl) ?_; dsimp only)); refine box_event ?hg (N := 7) ?hd (cs := #[.int .i64 0, .int .i64 0, .int .i64 0, .string (⟨#[]⟩ : ByteArray), .slice none 0 0, .slice none 0 0]) (t := 49) ?hr ?_; (case hd => rfl); (case hg => rfl); (case hr => first | (go_simp; done) | (go_simp; rfl)); intro gb200 hg w46 hbox hb; have n0_ := Aside0.mk (blk_below tq_15 hb); have n1_ := Aside0.mk (blk_below tq_19 hb); have n2_ := Aside0.mk (below_step tq_17 hb); have n3_ := Aside0.mk (hbox); have n4_ := Aside0.mk (gb_ hg tq_17); have n5_ := Aside0.mk (gb_ hg tq_17); have n6_ := Aside0.mk (ltne_ hg (blk_lt tq_15)); have n7_ := Aside0.mk (gtne_ hg (blk_lt tq_15)); have n8_ := Aside0.mk (ltne_ hg (blk_lt tq_19)); have n9_ := Aside0.mk (gtne_ hg (blk_lt tq_19)); clear BK197 BK198 HB; have BK197 := n0_; have BK198 := n1_; have HB := n2_; have BK200 := n3_; have GW200 := n4_; have GE200 := n5_; have NB197_200 := n6_; have NB200_197 := n7_; have NB198_200 := n8_; have NB200_198 := n9_; clear n0_ n1_ n2_ n3_ n4_ n5_ n6_ n7_ n8_ n9_; clear hb hbox hg; have hnb47 := NB200_197.out; have hnc47 := NB197_200.out; have hnb48 := NB200_198.out; have hnc48 := NB198_200.out; have hcz49_0 := bc_ BK200.out 0; have hcz49_1 := bc_ BK200.out 1; have hcz49_2 := bc_ BK200.out 2; have hcz49_3 := bc_ BK200.out 3; have hcz49_4 := bc_ BK200.out 4; have hcz49_5 := bc_ BK200.out 5; have hfz49_0 := blk_frozen BK200.out 0; have hfz49_1 := blk_frozen BK200.out 1; have hfz49_2 := blk_frozen BK200.out 2; have hfz49_3 := blk_frozen BK200.out 3; have hfz49_4 := blk_frozen BK200.out 4; have hfz49_5 := blk_frozen BK200.out 5))
            have n0_ : Aside0 (((((((w46.setCell ⟨gb200, 0, none⟩ (.int .i64 ((rd_T49 l0_2 x6_1).f0))).setCell ⟨gb200, 1, none⟩ (.int .i64 ((rd_T49 l0_2 x6_1).f1))).setCell ⟨gb200, 2, none⟩ (.int .i64 ((rd_T49 l0_2 x6_1).f2))).setCell ⟨gb200, 3, none⟩ (.string ((rd_T49 l0_2 x6_1).f3))).setCell ⟨gb200, 4, none⟩ (.slice A199_4 ((rd_T49 l0_2 x6_1).f4).length c199_4)).setCell ⟨gb200, 5, none⟩ (.slice A199_5 ((rd_T49 l0_2 x6_1).f5).length c199_5)).heap[gb197]? = some (.cells #[.int .i64 a0_0, .slice A0_1 l0_1.length c0_1, .slice (some ad199) l0_2.length c0_2] 69 (0, 0))) := ⟨by (with_reducible repeat (first | refine blk_drewN ?_ _ | refine blk_drew ?_ | refine blk_alloc ?_ _)); refine blk_far ?_ NB197_200.out _; (with_reducible repeat (first | refine blk_drewN ?_ _ | refine blk_drew ?_ | refine blk_alloc ?_ _)); refine blk_far ?_ NB197_200.out _; (with_reducible repeat (first | refine blk_drewN ?_ _ | refine blk_drew ?_ | refine blk_alloc ?_ _)); refine blk_far ?_ NB197_200.out _; (with_reducible repeat (first | refine blk_drewN ?_ _ | refine blk_drew ?_ | refine blk_alloc ?_ _)); refine blk_far ?_ NB197_200.out _; (with_reducible repeat (first | refine blk_drewN ?_ _ | refine blk_drew ?_ | refine blk_alloc ?_ _)); refine blk_far ?_ NB197_200.out _; (with_reducible repeat (first | refine blk_drewN ?_ _ | refine blk_drew ?_ | refine blk_alloc ?_ _)); refine blk_far ?_ NB197_200.out _; (with_reducible repeat (first | refine blk_drewN ?_ _ | refine blk_drew ?_ | refine blk_alloc ?_ _)); exact BK197.out⟩
            have n1_ : Aside0 (((((((w46.setCell ⟨gb200, 0, none⟩ (.int .i64 ((rd_T49 l0_2 x6_1).f0))).setCell ⟨gb200, 1, none⟩ (.int .i64 ((rd_T49 l0_2 x6_1).f1))).setCell ⟨gb200, 2, none⟩ (.int .i64 ((rd_T49 l0_2 x6_1).f2))).setCell ⟨gb200, 3, none⟩ (.string ((rd_T49 l0_2 x6_1).f3))).setCell ⟨gb200, 4, none⟩ (.slice A199_4 ((rd_T49 l0_2 x6_1).f4).length c199_4)).setCell ⟨gb200, 5, none⟩ (.slice A199_5 ((rd_T49 l0_2 x6_1).f5).length c199_5)).heap[gb198]? = some (.cells #[.slice A1_0 l1_0.length c1_0] 28 (0, 0))) := ⟨by (with_reducible repeat (first | refine blk_drewN ?_ _ | refine blk_drew ?_ | refine blk_alloc ?_ _)); refine blk_far ?_ NB198_200.out _; (with_reducible repeat (first | refine blk_drewN ?_ _ | refine blk_drew ?_ | refine blk_alloc ?_ _)); refine blk_far ?_ NB198_200.out _; (with_reducible repeat (first | refine blk_drewN ?_ _ | refine blk_drew ?_ | refine blk_alloc ?_ _)); refine blk_far ?_ NB198_200.out _; (with_reducible repeat (first | refine blk_drewN ?_ _ | refine blk_drew ?_ | refine blk_alloc ?_ _)); refine blk_far ?_ NB198_200.out _; (with_reducible repeat (first | refine blk_drewN ?_ _ | refine blk_drew ?_ | refine blk_alloc ?_ _)); refine blk_far ?_ NB198_200.out _; (with_reducible repeat (first | refine blk_drewN ?_ _ | refine blk_drew ?_ | refine blk_alloc ?_ _)); refine blk_far ?_ NB198_200.out _; (with_reducible repeat (first | refine blk_drewN ?_ _ | refine blk_drew ?_ | refine blk_alloc ?_ _)); exact BK198.out⟩
            have n2_ : Aside0 (((((((w46.setCell ⟨gb200, 0, none⟩ (.int .i64 ((rd_T49 l0_2 x6_1).f0))).setCell ⟨gb200, 1, none⟩ (.int .i64 ((rd_T49 l0_2 x6_1).f1))).setCell ⟨gb200, 2, none⟩ (.int .i64 ((rd_T49 l0_2 x6_1).f2))).setCell ⟨gb200, 3, none⟩ (.string ((rd_T49 l0_2 x6_1).f3))).setCell ⟨gb200, 4, none⟩ (.slice A199_4 ((rd_T49 l0_2 x6_1).f4).length c199_4)).setCell ⟨gb200, 5, none⟩ (.slice A199_5 ((rd_T49 l0_2 x6_1).f5).length c199_5)).heap[gb200]? = some (.cells #[.int .i64 ((rd_T49 l0_2 x6_1).f0), .int .i64 ((rd_T49 l0_2 x6_1).f1), .int .i64 ((rd_T49 l0_2 x6_1).f2), .string ((rd_T49 l0_2 x6_1).f3), .slice A199_4 ((rd_T49 l0_2 x6_1).f4).length c199_4, .slice A199_5 ((rd_T49 l0_2 x6_1).f5).length c199_5] 49 (0, 0))) := ⟨by (with_reducible repeat (first | refine blk_drewN ?_ _ | refine blk_drew ?_ | refine blk_alloc ?_ _)); refine blk_put (cs := #[.int .i64 ((rd_T49 l0_2 x6_1).f0), .int .i64 ((rd_T49 l0_2 x6_1).f1), .int .i64 ((rd_T49 l0_2 x6_1).f2), .string ((rd_T49 l0_2 x6_1).f3), .slice A199_4 ((rd_T49 l0_2 x6_1).f4).length c199_4, .slice none 0 0]) ?_ 5 _ rfl; (with_reducible repeat (first | refine blk_drewN ?_ _ | refine blk_drew ?_ | refine blk_alloc ?_ _)); refine blk_put (cs := #[.int .i64 ((rd_T49 l0_2 x6_1).f0), .int .i64 ((rd_T49 l0_2 x6_1).f1), .int .i64 ((rd_T49 l0_2 x6_1).f2), .string ((rd_T49 l0_2 x6_1).f3), .slice none 0 0, .slice none 0 0]) ?_ 4 _ rfl; (with_reducible repeat (first | refine blk_drewN ?_ _ | refine blk_drew ?_ | refine blk_alloc ?_ _)); refine blk_put (cs := #[.int .i64 ((rd_T49 l0_2 x6_1).f0), .int .i64 ((rd_T49 l0_2 x6_1).f1), .int .i64 ((rd_T49 l0_2 x6_1).f2), .string (⟨#[]⟩ : ByteArray), .slice none 0 0, .slice none 0 0]) ?_ 3 _ rfl; (with_reducible repeat (first | refine blk_drewN ?_ _ | refine blk_drew ?_ | refine blk_alloc ?_ _)); refine blk_put (cs := #[.int .i64 ((rd_T49 l0_2 x6_1).f0), .int .i64 ((rd_T49 l0_2 x6_1).f1), .int .i64 0, .string (⟨#[]⟩ : ByteArray), .slice none 0 0, .slice none 0 0]) ?_ 2 _ rfl; (with_reducible repeat (first | refine blk_drewN ?_ _ | refine blk_drew ?_ | refine blk_alloc ?_ _)); refine blk_put (cs := #[.int .i64 ((rd_T49 l0_2 x6_1).f0), .int .i64 0, .int .i64 0, .string (⟨#[]⟩ : ByteArray), .slice none 0 0, .slice none 0 0]) ?_ 1 _ rfl; (with_reducible repeat (first | refine blk_drewN ?_ _ | refine blk_drew ?_ | refine blk_alloc ?_ _)); refine blk_put (cs := #[.int .i64 0, .int .i64 0, .int .i64 0, .string (⟨#[]⟩ : ByteArray), .slice none 0 0, .slice none 0 0]) ?_ 0 _ rfl; (with_reducible repeat (first | refine blk_drewN ?_ _ | refine blk_drew ?_ | refine blk_alloc ?_ _)); exact BK200.out⟩
            have n3_ : Aside0 (Below w.heap.size w ((((((w46.setCell ⟨gb200, 0, none⟩ (.int .i64 ((rd_T49 l0_2 x6_1).f0))).setCell ⟨gb200, 1, none⟩ (.int .i64 ((rd_T49 l0_2 x6_1).f1))).setCell ⟨gb200, 2, none⟩ (.int .i64 ((rd_T49 l0_2 x6_1).f2))).setCell ⟨gb200, 3, none⟩ (.string ((rd_T49 l0_2 x6_1).f3))).setCell ⟨gb200, 4, none⟩ (.slice A199_4 ((rd_T49 l0_2 x6_1).f4).length c199_4)).setCell ⟨gb200, 5, none⟩ (.slice A199_5 ((rd_T49 l0_2 x6_1).f5).length c199_5))) := ⟨by repeat (first | (with_reducible first | exact HB.out | apply below_alloc | apply pw_below_drewN | apply below_drew1 | refine below_set ?_ GE197.out | refine below_set ?_ GE198.out | refine below_set ?_ GE200.out) | exact HB.out)⟩
            (try clear BK197)
            (try clear BK198)
            (try clear BK200)
            (try clear HB)
            generalize ((((((w46.setCell ⟨gb200, 0, none⟩ (.int .i64 ((rd_T49 l0_2 x6_1).f0))).setCell ⟨gb200, 1, none⟩ (.int .i64 ((rd_T49 l0_2 x6_1).f1))).setCell ⟨gb200, 2, none⟩ (.int .i64 ((rd_T49 l0_2 x6_1).f2))).setCell ⟨gb200, 3, none⟩ (.string ((rd_T49 l0_2 x6_1).f3))).setCell ⟨gb200, 4, none⟩ (.slice A199_4 ((rd_T49 l0_2 x6_1).f4).length c199_4)).setCell ⟨gb200, 5, none⟩ (.slice A199_5 ((rd_T49 l0_2 x6_1).f5).length c199_5)) = w50 at n0_ n1_ n2_ n3_ ⊢
            have BK197 := n0_
            have BK198 := n1_
            have BK200 := n2_
            have HB := n3_
            clear n0_ n1_ n2_ n3_
            have n0_ := Aside0.mk (blk_drew BK197.out)
            have n1_ := Aside0.mk (blk_drew BK198.out)
            have n2_ := Aside0.mk (blk_drew BK200.out)
            have n3_ := Aside0.mk (below_drew1 HB.out)
            clear BK197 BK198 BK200 HB
            have BK197 := n0_
            have BK198 := n1_
            have BK200 := n2_
            have HB := n3_
            clear n0_ n1_ n2_ n3_
            refine start_ (n := 6) (S := fun w' => w'.cell? ⟨gb198, 0, none⟩ = some (.slice A1_0 l1_0.length c1_0) ∧ w'.cell? ⟨gb197, 0, none⟩ = some (.int .i64 a0_0) ∧ w'.cell? ⟨gb197, 1, none⟩ = some (.slice A0_1 l0_1.length c0_1) ∧ w'.cell? ⟨gb197, 2, none⟩ = some (.slice (some ad199) l0_2.length c0_2)) (ds := []) bq_0 (by kernel_rfl) rfl rfl ⟨(blk_cell BK198.out 0).trans rfl, (blk_cell BK197.out 0).trans rfl, (blk_cell BK197.out 1).trans rfl, (blk_cell BK197.out 2).trans rfl⟩ (fun hHeld => ?_)
            generalize w50.drew = w51 at BK197 BK198 BK200 HB hHeld ⊢
            refine yq_ (i := 2) (N := some 28) bq_6 (by kernel_rfl) ?_
            refine take_ (i := 0) (N := some 26) (v := ?_) (a' := ?_) bq_1 rfl rfl (by kernel_rfl) (fun _ _ _ h => h) (Or.inl ⟨by rfl, ?_⟩) hHeld ?_ ?_
            rotate_left
            ·rintro w' ⟨s0, s1, s2, s3⟩
             go_simp
             with_reducible rfl
            rotate_left
            ·simp only [Act.put, List.setIfInBounds_toArray, List.set_cons_zero, List.set_cons_succ, i64_w, i32_w]
             rfl
            refine take_ (i := 1) (N := some 27) (v := ?_) (a' := ?_) bq_2 rfl rfl (by kernel_rfl) (fun _ _ _ h => h) (Or.inl ⟨by rfl, ?_⟩) hHeld ?_ ?_
            rotate_left
            ·rintro w' ⟨s0, s1, s2, s3⟩
             go_simp
             with_reducible rfl
            rotate_left
            ·simp only [Act.put, List.setIfInBounds_toArray, List.set_cons_zero, List.set_cons_succ, i64_w, i32_w]
             rfl
            refine one_ (i := 3) (N := some 29) bq_3 rfl rfl (by kernel_rfl) (by decide) (fun K hK => ?_)
            refine goes_ Try.func133 (by kernel_rfl) rfl #[.agg #[.int .i64 a0_0, .slice A0_1 l0_1.length c0_1, .slice (some ad199) l0_2.length c0_2], .int .i64 x6_1] (by rfl) rfl rfl tq_1 ?_
            with_reducible refine (spec_PathTo.calls k1 a0_0 _ _ l0_1 _ _ l0_2 x6_1 t201 _ ?side1 ?side2 ?side3 ?side4 A14.out).mono ?_
            (case side1 => exact tq_6)
            (case side2 => exact HC0_1.out)
            (case side3 => exact tq_7)
            (case side4 => exact HC0_2.out)
            rintro e w52 ⟨rfl, hb⟩
            refine ⟨_, rfl, ?_⟩
            have n0_ := Aside0.mk (blk_below tq_15 hb)
            have n1_ := Aside0.mk (blk_below tq_19 hb)
            have n2_ := Aside0.mk (blk_below tq_47 hb)
            have n3_ := Aside0.mk (below_step tq_28 hb)
            clear BK197 BK198 BK200 HB
            have BK197 := n0_
            have BK198 := n1_
            have BK200 := n2_
            have HB := n3_
            clear n0_ n1_ n2_ n3_
            (try clear hb)
            (try clear hb2)
            (try clear hk)
            (try clear hi)
            refine hK.out _ _ ⟨(blk_cell BK198.out 0).trans rfl, (blk_cell BK197.out 0).trans rfl, (blk_cell BK197.out 1).trans rfl, (blk_cell BK197.out 2).trans rfl⟩ (fun hHeld => ?_)
            clear hK K
            refine norm_ (a' := ?_) ?_ ?_
            rotate_left
            ·show Act.put _ (some 29) _ = _
             simp only [Act.put, List.setIfInBounds_toArray, List.set_cons_zero, List.set_cons_succ, i64_w, i32_w]
             rfl
            refine one_ (i := 4) (N := some 30) bq_4 rfl rfl (by kernel_rfl) (by decide) (fun K hK => ?_)
            refine goes_ Try.func132 (by kernel_rfl) rfl #[.agg #[.slice A1_0 l1_0.length c1_0], .string t201] (by rfl) rfl rfl tq_1 ?_
            with_reducible refine (spec_ItemAt.calls k1 _ _ l1_0 t201 t202 _ ?side1 ?side2 A15.out).mono ?_
            (case side1 => exact tq_14)
            (case side2 => exact HC1_0.out)
            rintro e w53 ⟨rfl, hb⟩
            refine ⟨_, rfl, ?_⟩
            have n0_ := Aside0.mk (blk_below tq_15 hb)
            have n1_ := Aside0.mk (blk_below tq_19 hb)
            have n2_ := Aside0.mk (blk_below tq_47 hb)
            have n3_ := Aside0.mk (below_step tq_28 hb)
            clear BK197 BK198 BK200 HB
            have BK197 := n0_
            have BK198 := n1_
            have BK200 := n2_
            have HB := n3_
            clear n0_ n1_ n2_ n3_
            (try clear hb)
            (try clear hb2)
            (try clear hk)
            (try clear hi)
            refine hK.out _ _ ⟨(blk_cell BK198.out 0).trans rfl, (blk_cell BK197.out 0).trans rfl, (blk_cell BK197.out 1).trans rfl, (blk_cell BK197.out 2).trans rfl⟩ (fun hHeld => ?_)
            clear hK K
            refine norm_ (a' := ?_) ?_ ?_
            rotate_left
            ·show Act.put _ (some 30) _ = _
             simp only [Act.put, List.setIfInBounds_toArray, List.set_cons_zero, List.set_cons_succ, i64_w, i32_w]
             rfl
            refine yq_ (i := 5) (N := some 8) bq_5 (by kernel_rfl) ?_
            refine done_ (by kernel_rfl) ?_
            try go_wp2
            have n0_ := Aside0.mk (blk_drew BK197.out)
            have n1_ := Aside0.mk (blk_drew BK198.out)
            have n2_ := Aside0.mk (blk_drew BK200.out)
            have n3_ := Aside0.mk (below_drew1 HB.out)
            clear BK197 BK198 BK200 HB
            have BK197 := n0_
            have BK198 := n1_
            have BK200 := n2_
            have HB := n3_
            clear n0_ n1_ n2_ n3_
            have p203 : 0 ≤ (t202 : Int) := of_decide_eq_true tq_4
            have q203 : t202 < (l1_0.length : Int) := of_decide_eq_true tq_4
            obtain ⟨ad203, e203, hx203_0, hx203_1, hx203_2⟩ := at_T38 HR1_0.out t202 p203 q203
            have hw203_2 := hx203_2
            have hw203_1 := hx203_1
            have hw203_0 := hx203_0
            cases e203
            replace hx203_0 := hx_ HB.out hx203_0
            replace hx203_1 := hx_ HB.out hx203_1
            replace hx203_2 := hx_ HB.out hx203_2
            replace p203 := eq_true p203
            replace q203 := eq_true q203
            have p204 : 0 ≤ (t202 : Int) := of_decide_eq_true tq_4
            have q204 : t202 < (l1_0.length : Int) := of_decide_eq_true tq_4
            obtain ⟨ad204, e204, hx204_0, hx204_1, hx204_2⟩ := at_T38 HR1_0.out t202 p204 q204
            have hw204_2 := hx204_2
            have hw204_1 := hx204_1
            have hw204_0 := hx204_0
            obtain rfl : ad203 = ad204 := (by injection e204)
            replace hx204_0 := hx_ HB.out hx204_0
            replace hx204_1 := hx_ HB.out hx204_1
            replace hx204_2 := hx_ HB.out hx204_2
            replace p204 := eq_true p204
            replace q204 := eq_true q204
            refine start_ (n := 31) (S := fun w' => w'.cell? ⟨gb198, 0, none⟩ = some (.slice (some ad203) l1_0.length c1_0) ∧ w'.cell? ⟨gb200, 0, none⟩ = some (.int .i64 ((rd_T49 l0_2 x6_1).f0)) ∧ w'.cell? ⟨gb200, 1, none⟩ = some (.int .i64 ((rd_T49 l0_2 x6_1).f1)) ∧ w'.cell? ⟨gb200, 2, none⟩ = some (.int .i64 ((rd_T49 l0_2 x6_1).f2)) ∧ w'.cell? ⟨gb200, 3, none⟩ = some (.string ((rd_T49 l0_2 x6_1).f3)) ∧ w'.cell? ⟨gb200, 4, none⟩ = some (.slice A199_4 ((rd_T49 l0_2 x6_1).f4).length c199_4) ∧ w'.cell? ⟨gb200, 5, none⟩ = some (.slice A199_5 ((rd_T49 l0_2 x6_1).f5).length c199_5) ∧ w'.cell? (ad203.add ((t202).toNat * 3)) = some (.string ((rd_T38 l1_0 t202).f0)) ∧ w'.cell? ⟨(ad203.add ((t202).toNat * 3)).block, (ad203.add ((t202).toNat * 3)).off + 1, none⟩ = some (.bool ((rd_T38 l1_0 t202).f1)) ∧ w'.cell? ⟨(ad203.add ((t202).toNat * 3)).block, (ad203.add ((t202).toNat * 3)).off + 2, none⟩ = some (.string ((rd_T38 l1_0 t202).f2)) ∧ w'.cell? (ad203.add ((t202).toNat * 3)) = some (.string ((rd_T38 l1_0 t202).f0)) ∧ w'.cell? ⟨(ad203.add ((t202).toNat * 3)).block, (ad203.add ((t202).toNat * 3)).off + 1, none⟩ = some (.bool ((rd_T38 l1_0 t202).f1)) ∧ w'.cell? ⟨(ad203.add ((t202).toNat * 3)).block, (ad203.add ((t202).toNat * 3)).off + 2, none⟩ = some (.string ((rd_T38 l1_0 t202).f2))) (ds := []) bq_7 (by kernel_rfl) rfl rfl ⟨(blk_cell BK198.out 0).trans rfl, (blk_cell BK200.out 0).trans rfl, (blk_cell BK200.out 1).trans rfl, (blk_cell BK200.out 2).trans rfl, (blk_cell BK200.out 3).trans rfl, (blk_cell BK200.out 4).trans rfl, (blk_cell BK200.out 5).trans rfl, ((HB.out.cell (World.block_lt_of_cell? w _ hw203_0)).trans hw203_0), ((HB.out.cell (World.block_lt_of_cell? w _ hw203_1)).trans hw203_1), ((HB.out.cell (World.block_lt_of_cell? w _ hw203_2)).trans hw203_2), ((HB.out.cell (World.block_lt_of_cell? w _ hw204_0)).trans hw204_0), ((HB.out.cell (World.block_lt_of_cell? w _ hw204_1)).trans hw204_1), ((HB.out.cell (World.block_lt_of_cell? w _ hw204_2)).trans hw204_2)⟩ (fun hHeld => ?_); refine with_tabW spec_Fits.tab9 spec_Fits.bits9 (fun HT_ HW_ => ?_)
            generalize w53.drew = w54 at BK197 BK198 BK200 HB hx203_0 hx203_1 hx203_2 hx204_0 hx204_1 hx204_2 hHeld ⊢
            refine yq_ (i := 0) (N := some 31) bq_8 (any_of HT_.out (by kernel_rfl)) ?_
            refine yq_ (i := 1) (N := some 32) bq_9 (any_of HT_.out (by kernel_rfl)) ?_
            refine yq_ (i := 2) (N := some 33) bq_10 (any_of HT_.out (by kernel_rfl)) ?_
            refine yq_ (i := 3) (N := some 34) bq_11 (any_of HT_.out (by kernel_rfl)) ?_
            refine yq_ (i := 5) (N := some 36) bq_39 (any_of HT_.out (by kernel_rfl)) ?_
            refine yq_ (i := 9) (N := some 40) bq_40 (any_of HT_.out (by kernel_rfl)) ?_
            refine take_ (i := 4) (N := some 35) (v := ?_) (a' := ?_) bq_41 rfl rfl (take_ofW HT_.out HW_.out (by kernel_rfl)) (fun _ _ _ h => h) (Or.inl ⟨by rfl, ?_⟩) hHeld ?_ ?_
            rotate_left
            ·rintro w' ⟨s0, s1, s2, s3, s4, s5, s6, s7, s8, s9, s10, s11, s12⟩
             go_simp
             with_reducible rfl
            rotate_left
            ·simp only [Act.put, List.setIfInBounds_toArray, List.set_cons_zero, List.set_cons_succ, i64_w, i32_w]
             rfl
            refine yq_ (i := 6) (N := some 37) bq_42 (any_of HT_.out (by kernel_rfl)) ?_
            refine yq_ (i := 7) (N := some 38) bq_43 (any_of HT_.out (by kernel_rfl)) ?_
            refine take_ (i := 8) (N := some 39) (v := ?_) (a' := ?_) bq_12 rfl rfl (take_ofW HT_.out HW_.out (by kernel_rfl)) (fun _ _ _ h => h) (Or.inl ⟨by rfl, ?_⟩) hHeld ?_ ?_
            rotate_left
            ·rintro w' ⟨s0, s1, s2, s3, s4, s5, s6, s7, s8, s9, s10, s11, s12⟩
             go_simp
             with_reducible rfl
            rotate_left
            ·simp only [Act.put, List.setIfInBounds_toArray, List.set_cons_zero, List.set_cons_succ, i64_w, i32_w]
             rfl
            refine take_ (i := 10) (N := some 41) (v := ?_) (a' := ?_) bq_13 rfl rfl (take_ofW HT_.out HW_.out (by kernel_rfl)) (fun _ _ _ h => h) (Or.inl ⟨by rfl, ?_⟩) hHeld ?_ ?_
            rotate_left
            ·rintro w' ⟨s0, s1, s2, s3, s4, s5, s6, s7, s8, s9, s10, s11, s12⟩
             go_simp
             with_reducible rfl
            rotate_left
            ·simp only [Act.put, List.setIfInBounds_toArray, List.set_cons_zero, List.set_cons_succ, i64_w, i32_w]
             rfl
            refine yq_ (i := 11) (N := some 42) bq_14 (any_of HT_.out (by kernel_rfl)) ?_
            refine yq_ (i := 12) (N := some 43) bq_15 (any_of HT_.out (by kernel_rfl)) ?_
            refine yq_ (i := 13) (N := some 44) bq_16 (any_of HT_.out (by kernel_rfl)) ?_
            refine yq_ (i := 14) (N := some 45) bq_17 (any_of HT_.out (by kernel_rfl)) ?_
            refine yq_ (i := 15) (N := some 46) bq_18 (any_of HT_.out (by kernel_rfl)) ?_
            refine take_ (i := 16) (N := some 47) (v := ?_) (a' := ?_) bq_19 rfl rfl (take_ofW HT_.out HW_.out (by kernel_rfl)) (fun _ _ _ h => h) (Or.inl ⟨by rfl, ?_⟩) hHeld ?_ ?_
            rotate_left
            ·rintro w' ⟨s0, s1, s2, s3, s4, s5, s6, s7, s8, s9, s10, s11, s12⟩
             go_simp
             with_reducible rfl
            rotate_left
            ·simp only [Act.put, List.setIfInBounds_toArray, List.set_cons_zero, List.set_cons_succ, i64_w, i32_w]
             rfl
            refine yq_ (i := 17) (N := some 48) bq_20 (any_of HT_.out (by kernel_rfl)) ?_
            refine yq_ (i := 18) (N := some 49) bq_21 (any_of HT_.out (by kernel_rfl)) ?_
            refine yq_ (i := 19) (N := some 50) bq_22 (any_of HT_.out (by kernel_rfl)) ?_
            refine yq_ (i := 21) (N := some 52) bq_56 (any_of HT_.out (by kernel_rfl)) ?_
            refine yq_ (i := 26) (N := some 57) bq_57 (any_of HT_.out (by kernel_rfl)) ?_
            refine take_ (i := 20) (N := some 51) (v := ?_) (a' := ?_) bq_58 rfl rfl (take_ofW HT_.out HW_.out (by kernel_rfl)) (fun _ _ _ h => h) (Or.inl ⟨by rfl, ?_⟩) hHeld ?_ ?_
            rotate_left
            ·rintro w' ⟨s0, s1, s2, s3, s4, s5, s6, s7, s8, s9, s10, s11, s12⟩
             go_simp
             with_reducible rfl
            rotate_left
            ·simp only [Act.put, List.setIfInBounds_toArray, List.set_cons_zero, List.set_cons_succ, i64_w, i32_w]
             rfl
            refine yq_ (i := 22) (N := some 53) bq_59 (any_of HT_.out (by kernel_rfl)) ?_
            refine yq_ (i := 23) (N := some 54) bq_60 (any_of HT_.out (by kernel_rfl)) ?_
            refine take_ (i := 24) (N := some 55) (v := ?_) (a' := ?_) bq_61 rfl rfl (take_ofW HT_.out HW_.out (by kernel_rfl)) (fun _ _ _ h => h) (Or.inl ⟨by rfl, ?_⟩) hHeld ?_ ?_
            rotate_left
            ·rintro w' ⟨s0, s1, s2, s3, s4, s5, s6, s7, s8, s9, s10, s11, s12⟩
             go_simp
             with_reducible rfl
            rotate_left
            ·simp only [Act.put, List.setIfInBounds_toArray, List.set_cons_zero, List.set_cons_succ, i64_w, i32_w]
             rfl
            refine yq_ (i := 25) (N := some 56) bq_23 (any_of HT_.out (by kernel_rfl)) ?_
            refine take_ (i := 27) (N := some 58) (v := ?_) (a' := ?_) bq_24 rfl rfl (take_ofW HT_.out HW_.out (by kernel_rfl)) (fun _ _ _ h => h) (Or.inl ⟨by rfl, ?_⟩) hHeld ?_ ?_
            rotate_left
            ·rintro w' ⟨s0, s1, s2, s3, s4, s5, s6, s7, s8, s9, s10, s11, s12⟩
             go_simp
             with_reducible rfl
            rotate_left
            ·simp only [Act.put, List.setIfInBounds_toArray, List.set_cons_zero, List.set_cons_succ, i64_w, i32_w]
             rfl
            refine yq_ (i := 28) (N := some 59) bq_25 (any_of HT_.out (by kernel_rfl)) ?_
            refine yq_ (i := 29) (N := some 60) bq_26 (any_of HT_.out (by kernel_rfl)) ?_
            refine yq_ (i := 30) (N := some 61) bq_27 (any_of HT_.out (by kernel_rfl)) ?_
            refine done_ (done_of HT_.out (by kernel_rfl)) ?_
            try go_wp2
            go_roundg k1
            case measure => have := HK1.out; omega
            case rel => exact ⟨(wrap64 (x5_1 + 1)), (wrap64 (x6_1 + 1)), tq_11, tq_11, H', ⟨by have := HK1.out; omega⟩, ⟨by (with_reducible repeat (first | refine blk_drewN ?_ _ | refine blk_drew ?_ | refine blk_alloc ?_ _)); exact BK197.out⟩, ⟨by (with_reducible repeat (first | refine blk_drewN ?_ _ | refine blk_drew ?_ | refine blk_alloc ?_ _)); exact BK198.out⟩, ⟨by repeat (first | (with_reducible first | exact HB.out | apply below_alloc | apply pw_below_drewN | apply below_drew1 | refine below_set ?_ GE197.out | refine below_set ?_ GE198.out | refine below_set ?_ GE200.out) | exact HB.out)⟩⟩
           ·rw [if_neg c43] at H
            have c43b0 : ((((rd_T38 l1_0 t202).f2).size : Int) == ((rd_T49 l0_2 x6_1).f1)) = false := beq_eq_false_iff_ne.mpr c43
            have c43b1 : ((((rd_T38 l1_0 t202).f2).size : Int) != ((rd_T49 l0_2 x6_1).f1)) = true := bne_iff_ne.mpr c43
            obtain rfl := Option.some.inj H
            have hnb55 := NB197_198.out
            have hnc55 := NB198_197.out
            have hcz56_0 := bc_ BK197.out 0
            have hcz56_1 := bc_ BK197.out 1
            have hcz56_2 := bc_ BK197.out 2
            have hfz56_0 := blk_frozen BK197.out 0
            have hfz56_1 := blk_frozen BK197.out 1
            have hfz56_2 := blk_frozen BK197.out 2
            have p199 : 0 ≤ (x6_1 : Int) := of_decide_eq_true tq_4
            have q199 : x6_1 < (l0_2.length : Int) := of_decide_eq_true tq_4
            obtain ⟨ad199, A199_4, c199_4, A199_5, c199_5, e199, hx199_0, hx199_1, hx199_2, hx199_3, hx199_4, hx199_5, hl199_4, hi199_4, hl199_5, hi199_5⟩ := at_T49 HR0_2.out x6_1 p199 q199
            cases e199
            replace hx199_0 := hx_ HB.out hx199_0
            replace hx199_1 := hx_ HB.out hx199_1
            replace hx199_2 := hx_ HB.out hx199_2
            replace hx199_3 := hx_ HB.out hx199_3
            replace hx199_4 := hx_ HB.out hx199_4
            replace hx199_5 := hx_ HB.out hx199_5
            have HR199_4 := Aside0.mk hi199_4
            have HC199_4 := Aside0.mk hl199_4
            clear hi199_4 hl199_4
            have HR199_5 := Aside0.mk hi199_5
            have HC199_5 := Aside0.mk hl199_5
            clear hi199_5 hl199_5
            replace p199 := eq_true p199
            replace q199 := eq_true q199
            try go_wp2_with (first | ((with_reducible refine gate_dst (N := 7) rfl ?_); (try (refine gate_guard (by rfl) ?_; dsimp only)); refine box_event ?hg (N := 7) ?hd (cs := #[.int .i64 0, .int .i64 0, .int .i64 0, .string (⟨#[]⟩ : ByteArray), .slice none 0 0, .slice none 0 0]) (t := 49) ?hr ?_; (case hd => rfl); (case hg => rfl); (case hr => first | (go_simp; done) | (go_simp; rfl)); intro gb200 hg w57 hbox hb; have n0_ := Aside0.mk (blk_below tq_15 hb); have n1_ := Aside0.mk (blk_below tq_19 hb); have n2_ := Aside0.mk (below_step tq_17 hb); have n3_ := Aside0.mk (hbox); have n4_ := Aside0.mk (gb_ hg tq_17); have n5_ := Aside0.mk (gb_ hg tq_17); have n6_ := Aside0.mk (ltne_ hg (blk_lt tq_15)); have n7_ := Aside0.mk (gtne_ hg (blk_lt tq_15)); have n8_ := Aside0.mk (ltne_ hg (blk_lt tq_19)); have n9_ := Aside0.mk (gtne_ hg (blk_lt tq_19)); clear BK197 BK198 HB; have BK197 := n0_; have BK198 := n1_; have HB := n2_; have BK200 := n3_; have GW200 := n4_; have GE200 := n5_; have NB197_200 := n6_; have NB200_197 := n7_; have NB198_200 := n8_; have NB200_198 := n9_; clear n0_ n1_ n2_ n3_ n4_ n5_ n6_ n7_ n8_ n9_; clear hb hbox hg; have hnb58 := NB200_197.out; have hnc58 := NB197_200.out; have hnb59 := NB200_198.out; have hnc59 := NB198_200.out; have hcz60_0 := bc_ BK200.out 0; have hcz60_1 := bc_ BK200.out 1; have hcz60_2 := bc_ BK200.out 2; have hcz60_3 := bc_ BK200.out 3; have hcz60_4 := bc_ BK200.out 4; have hcz60_5 := bc_ BK200.out 5; have hfz60_0 := blk_frozen BK200.out 0; have hfz60_1 := blk_frozen BK200.out 1; have hfz60_2 := blk_frozen BK200.out 2; have hfz60_3 := blk_frozen BK200.out 3; have hfz60_4 := blk_frozen BK200.out 4; have hfz60_5 := blk_frozen BK200.out 5))
            have n0_ : Aside0 (((((((w57.setCell ⟨gb200, 0, none⟩ (.int .i64 ((rd_T49 l0_2 x6_1).f0))).setCell ⟨gb200, 1, none⟩ (.int .i64 ((rd_T49 l0_2 x6_1).f1))).setCell ⟨gb200, 2, none⟩ (.int .i64 ((rd_T49 l0_2 x6_1).f2))).setCell ⟨gb200, 3, none⟩ (.string ((rd_T49 l0_2 x6_1).f3))).setCell ⟨gb200, 4, none⟩ (.slice A199_4 ((rd_T49 l0_2 x6_1).f4).length c199_4)).setCell ⟨gb200, 5, none⟩ (.slice A199_5 ((rd_T49 l0_2 x6_1).f5).length c199_5)).heap[gb197]? = some (.cells #[.int .i64 a0_0, .slice A0_1 l0_1.length c0_1, .slice (some ad199) l0_2.length c0_2] 69 (0, 0))) := ⟨by (with_reducible repeat (first | refine blk_drewN ?_ _ | refine blk_drew ?_ | refine blk_alloc ?_ _)); refine blk_far ?_ NB197_200.out _; (with_reducible repeat (first | refine blk_drewN ?_ _ | refine blk_drew ?_ | refine blk_alloc ?_ _)); refine blk_far ?_ NB197_200.out _; (with_reducible repeat (first | refine blk_drewN ?_ _ | refine blk_drew ?_ | refine blk_alloc ?_ _)); refine blk_far ?_ NB197_200.out _; (with_reducible repeat (first | refine blk_drewN ?_ _ | refine blk_drew ?_ | refine blk_alloc ?_ _)); refine blk_far ?_ NB197_200.out _; (with_reducible repeat (first | refine blk_drewN ?_ _ | refine blk_drew ?_ | refine blk_alloc ?_ _)); refine blk_far ?_ NB197_200.out _; (with_reducible repeat (first | refine blk_drewN ?_ _ | refine blk_drew ?_ | refine blk_alloc ?_ _)); refine blk_far ?_ NB197_200.out _; (with_reducible repeat (first | refine blk_drewN ?_ _ | refine blk_drew ?_ | refine blk_alloc ?_ _)); exact BK197.out⟩
            have n1_ : Aside0 (((((((w57.setCell ⟨gb200, 0, none⟩ (.int .i64 ((rd_T49 l0_2 x6_1).f0))).setCell ⟨gb200, 1, none⟩ (.int .i64 ((rd_T49 l0_2 x6_1).f1))).setCell ⟨gb200, 2, none⟩ (.int .i64 ((rd_T49 l0_2 x6_1).f2))).setCell ⟨gb200, 3, none⟩ (.string ((rd_T49 l0_2 x6_1).f3))).setCell ⟨gb200, 4, none⟩ (.slice A199_4 ((rd_T49 l0_2 x6_1).f4).length c199_4)).setCell ⟨gb200, 5, none⟩ (.slice A199_5 ((rd_T49 l0_2 x6_1).f5).length c199_5)).heap[gb198]? = some (.cells #[.slice A1_0 l1_0.length c1_0] 28 (0, 0))) := ⟨by (with_reducible repeat (first | refine blk_drewN ?_ _ | refine blk_drew ?_ | refine blk_alloc ?_ _)); refine blk_far ?_ NB198_200.out _; (with_reducible repeat (first | refine blk_drewN ?_ _ | refine blk_drew ?_ | refine blk_alloc ?_ _)); refine blk_far ?_ NB198_200.out _; (with_reducible repeat (first | refine blk_drewN ?_ _ | refine blk_drew ?_ | refine blk_alloc ?_ _)); refine blk_far ?_ NB198_200.out _; (with_reducible repeat (first | refine blk_drewN ?_ _ | refine blk_drew ?_ | refine blk_alloc ?_ _)); refine blk_far ?_ NB198_200.out _; (with_reducible repeat (first | refine blk_drewN ?_ _ | refine blk_drew ?_ | refine blk_alloc ?_ _)); refine blk_far ?_ NB198_200.out _; (with_reducible repeat (first | refine blk_drewN ?_ _ | refine blk_drew ?_ | refine blk_alloc ?_ _)); refine blk_far ?_ NB198_200.out _; (with_reducible repeat (first | refine blk_drewN ?_ _ | refine blk_drew ?_ | refine blk_alloc ?_ _)); exact BK198.out⟩
            have n2_ : Aside0 (((((((w57.setCell ⟨gb200, 0, none⟩ (.int .i64 ((rd_T49 l0_2 x6_1).f0))).setCell ⟨gb200, 1, none⟩ (.int .i64 ((rd_T49 l0_2 x6_1).f1))).setCell ⟨gb200, 2, none⟩ (.int .i64 ((rd_T49 l0_2 x6_1).f2))).setCell ⟨gb200, 3, none⟩ (.string ((rd_T49 l0_2 x6_1).f3))).setCell ⟨gb200, 4, none⟩ (.slice A199_4 ((rd_T49 l0_2 x6_1).f4).length c199_4)).setCell ⟨gb200, 5, none⟩ (.slice A199_5 ((rd_T49 l0_2 x6_1).f5).length c199_5)).heap[gb200]? = some (.cells #[.int .i64 ((rd_T49 l0_2 x6_1).f0), .int .i64 ((rd_T49 l0_2 x6_1).f1), .int .i64 ((rd_T49 l0_2 x6_1).f2), .string ((rd_T49 l0_2 x6_1).f3), .slice A199_4 ((rd_T49 l0_2 x6_1).f4).length c199_4, .slice A199_5 ((rd_T49 l0_2 x6_1).f5).length c199_5] 49 (0, 0))) := ⟨by (with_reducible repeat (first | refine blk_drewN ?_ _ | refine blk_drew ?_ | refine blk_alloc ?_ _)); refine blk_put (cs := #[.int .i64 ((rd_T49 l0_2 x6_1).f0), .int .i64 ((rd_T49 l0_2 x6_1).f1), .int .i64 ((rd_T49 l0_2 x6_1).f2), .string ((rd_T49 l0_2 x6_1).f3), .slice A199_4 ((rd_T49 l0_2 x6_1).f4).length c199_4, .slice none 0 0]) ?_ 5 _ rfl; (with_reducible repeat (first | refine blk_drewN ?_ _ | refine blk_drew ?_ | refine blk_alloc ?_ _)); refine blk_put (cs := #[.int .i64 ((rd_T49 l0_2 x6_1).f0), .int .i64 ((rd_T49 l0_2 x6_1).f1), .int .i64 ((rd_T49 l0_2 x6_1).f2), .string ((rd_T49 l0_2 x6_1).f3), .slice none 0 0, .slice none 0 0]) ?_ 4 _ rfl; (with_reducible repeat (first | refine blk_drewN ?_ _ | refine blk_drew ?_ | refine blk_alloc ?_ _)); refine blk_put (cs := #[.int .i64 ((rd_T49 l0_2 x6_1).f0), .int .i64 ((rd_T49 l0_2 x6_1).f1), .int .i64 ((rd_T49 l0_2 x6_1).f2), .string (⟨#[]⟩ : ByteArray), .slice none 0 0, .slice none 0 0]) ?_ 3 _ rfl; (with_reducible repeat (first | refine blk_drewN ?_ _ | refine blk_drew ?_ | refine blk_alloc ?_ _)); refine blk_put (cs := #[.int .i64 ((rd_T49 l0_2 x6_1).f0), .int .i64 ((rd_T49 l0_2 x6_1).f1), .int .i64 0, .string (⟨#[]⟩ : ByteArray), .slice none 0 0, .slice none 0 0]) ?_ 2 _ rfl; (with_reducible repeat (first | refine blk_drewN ?_ _ | refine blk_drew ?_ | refine blk_alloc ?_ _)); refine blk_put (cs := #[.int .i64 ((rd_T49 l0_2 x6_1).f0), .int .i64 0, .int .i64 0, .string (⟨#[]⟩ : ByteArray), .slice none 0 0, .slice none 0 0]) ?_ 1 _ rfl; (with_reducible repeat (first | refine blk_drewN ?_ _ | refine blk_drew ?_ | refine blk_alloc ?_ _)); refine blk_put (cs := #[.int .i64 0, .int .i64 0, .int .i64 0, .string (⟨#[]⟩ : ByteArray), .slice none 0 0, .slice none 0 0]) ?_ 0 _ rfl; (with_reducible repeat (first | refine blk_drewN ?_ _ | refine blk_drew ?_ | refine blk_alloc ?_ _)); exact BK200.out⟩
            have n3_ : Aside0 (Below w.heap.size w ((((((w57.setCell ⟨gb200, 0, none⟩ (.int .i64 ((rd_T49 l0_2 x6_1).f0))).setCell ⟨gb200, 1, none⟩ (.int .i64 ((rd_T49 l0_2 x6_1).f1))).setCell ⟨gb200, 2, none⟩ (.int .i64 ((rd_T49 l0_2 x6_1).f2))).setCell ⟨gb200, 3, none⟩ (.string ((rd_T49 l0_2 x6_1).f3))).setCell ⟨gb200, 4, none⟩ (.slice A199_4 ((rd_T49 l0_2 x6_1).f4).length c199_4)).setCell ⟨gb200, 5, none⟩ (.slice A199_5 ((rd_T49 l0_2 x6_1).f5).length c199_5))) := ⟨by repeat (first | (with_reducible first | exact HB.out | apply below_alloc | apply pw_below_drewN | apply below_drew1 | refine below_set ?_ GE197.out | refine below_set ?_ GE198.out | refine below_set ?_ GE200.out) | exact HB.out)⟩
            (try clear BK197)
            (try clear BK198)
            (try clear BK200)
            (try clear HB)
            generalize ((((((w57.setCell ⟨gb200, 0, none⟩ (.int .i64 ((rd_T49 l0_2 x6_1).f0))).setCell ⟨gb200, 1, none⟩ (.int .i64 ((rd_T49 l0_2 x6_1).f1))).setCell ⟨gb200, 2, none⟩ (.int .i64 ((rd_T49 l0_2 x6_1).f2))).setCell ⟨gb200, 3, none⟩ (.string ((rd_T49 l0_2 x6_1).f3))).setCell ⟨gb200, 4, none⟩ (.slice A199_4 ((rd_T49 l0_2 x6_1).f4).length c199_4)).setCell ⟨gb200, 5, none⟩ (.slice A199_5 ((rd_T49 l0_2 x6_1).f5).length c199_5)) = w61 at n0_ n1_ n2_ n3_ ⊢
            have BK197 := n0_
            have BK198 := n1_
            have BK200 := n2_
            have HB := n3_
            clear n0_ n1_ n2_ n3_
            have n0_ := Aside0.mk (blk_drew BK197.out)
            have n1_ := Aside0.mk (blk_drew BK198.out)
            have n2_ := Aside0.mk (blk_drew BK200.out)
            have n3_ := Aside0.mk (below_drew1 HB.out)
            clear BK197 BK198 BK200 HB
            have BK197 := n0_
            have BK198 := n1_
            have BK200 := n2_
            have HB := n3_
            clear n0_ n1_ n2_ n3_
            refine start_ (n := 6) (S := fun w' => w'.cell? ⟨gb198, 0, none⟩ = some (.slice A1_0 l1_0.length c1_0) ∧ w'.cell? ⟨gb197, 0, none⟩ = some (.int .i64 a0_0) ∧ w'.cell? ⟨gb197, 1, none⟩ = some (.slice A0_1 l0_1.length c0_1) ∧ w'.cell? ⟨gb197, 2, none⟩ = some (.slice (some ad199) l0_2.length c0_2)) (ds := []) bq_0 (by kernel_rfl) rfl rfl ⟨(blk_cell BK198.out 0).trans rfl, (blk_cell BK197.out 0).trans rfl, (blk_cell BK197.out 1).trans rfl, (blk_cell BK197.out 2).trans rfl⟩ (fun hHeld => ?_)
            generalize w61.drew = w62 at BK197 BK198 BK200 HB hHeld ⊢
            refine yq_ (i := 2) (N := some 28) bq_6 (by kernel_rfl) ?_
            refine take_ (i := 0) (N := some 26) (v := ?_) (a' := ?_) bq_1 rfl rfl (by kernel_rfl) (fun _ _ _ h => h) (Or.inl ⟨by rfl, ?_⟩) hHeld ?_ ?_
            rotate_left
            ·rintro w' ⟨s0, s1, s2, s3⟩
             go_simp
             with_reducible rfl
            rotate_left
            ·simp only [Act.put, List.setIfInBounds_toArray, List.set_cons_zero, List.set_cons_succ, i64_w, i32_w]
             rfl
            refine take_ (i := 1) (N := some 27) (v := ?_) (a' := ?_) bq_2 rfl rfl (by kernel_rfl) (fun _ _ _ h => h) (Or.inl ⟨by rfl, ?_⟩) hHeld ?_ ?_
            rotate_left
            ·rintro w' ⟨s0, s1, s2, s3⟩
             go_simp
             with_reducible rfl
            rotate_left
            ·simp only [Act.put, List.setIfInBounds_toArray, List.set_cons_zero, List.set_cons_succ, i64_w, i32_w]
             rfl
            refine one_ (i := 3) (N := some 29) bq_3 rfl rfl (by kernel_rfl) (by decide) (fun K hK => ?_)
            refine goes_ Try.func133 (by kernel_rfl) rfl #[.agg #[.int .i64 a0_0, .slice A0_1 l0_1.length c0_1, .slice (some ad199) l0_2.length c0_2], .int .i64 x6_1] (by rfl) rfl rfl tq_1 ?_
            with_reducible refine (spec_PathTo.calls k1 a0_0 _ _ l0_1 _ _ l0_2 x6_1 t201 _ ?side1 ?side2 ?side3 ?side4 A14.out).mono ?_
            (case side1 => exact tq_6)
            (case side2 => exact HC0_1.out)
            (case side3 => exact tq_7)
            (case side4 => exact HC0_2.out)
            rintro e w63 ⟨rfl, hb⟩
            refine ⟨_, rfl, ?_⟩
            have n0_ := Aside0.mk (blk_below tq_15 hb)
            have n1_ := Aside0.mk (blk_below tq_19 hb)
            have n2_ := Aside0.mk (blk_below tq_47 hb)
            have n3_ := Aside0.mk (below_step tq_28 hb)
            clear BK197 BK198 BK200 HB
            have BK197 := n0_
            have BK198 := n1_
            have BK200 := n2_
            have HB := n3_
            clear n0_ n1_ n2_ n3_
            (try clear hb)
            (try clear hb2)
            (try clear hk)
            (try clear hi)
            refine hK.out _ _ ⟨(blk_cell BK198.out 0).trans rfl, (blk_cell BK197.out 0).trans rfl, (blk_cell BK197.out 1).trans rfl, (blk_cell BK197.out 2).trans rfl⟩ (fun hHeld => ?_)
            clear hK K
            refine norm_ (a' := ?_) ?_ ?_
            rotate_left
            ·show Act.put _ (some 29) _ = _
             simp only [Act.put, List.setIfInBounds_toArray, List.set_cons_zero, List.set_cons_succ, i64_w, i32_w]
             rfl
            refine one_ (i := 4) (N := some 30) bq_4 rfl rfl (by kernel_rfl) (by decide) (fun K hK => ?_)
            refine goes_ Try.func132 (by kernel_rfl) rfl #[.agg #[.slice A1_0 l1_0.length c1_0], .string t201] (by rfl) rfl rfl tq_1 ?_
            with_reducible refine (spec_ItemAt.calls k1 _ _ l1_0 t201 t202 _ ?side1 ?side2 A15.out).mono ?_
            (case side1 => exact tq_14)
            (case side2 => exact HC1_0.out)
            rintro e w64 ⟨rfl, hb⟩
            refine ⟨_, rfl, ?_⟩
            have n0_ := Aside0.mk (blk_below tq_15 hb)
            have n1_ := Aside0.mk (blk_below tq_19 hb)
            have n2_ := Aside0.mk (blk_below tq_47 hb)
            have n3_ := Aside0.mk (below_step tq_28 hb)
            clear BK197 BK198 BK200 HB
            have BK197 := n0_
            have BK198 := n1_
            have BK200 := n2_
            have HB := n3_
            clear n0_ n1_ n2_ n3_
            (try clear hb)
            (try clear hb2)
            (try clear hk)
            (try clear hi)
            refine hK.out _ _ ⟨(blk_cell BK198.out 0).trans rfl, (blk_cell BK197.out 0).trans rfl, (blk_cell BK197.out 1).trans rfl, (blk_cell BK197.out 2).trans rfl⟩ (fun hHeld => ?_)
            clear hK K
            refine norm_ (a' := ?_) ?_ ?_
            rotate_left
            ·show Act.put _ (some 30) _ = _
             simp only [Act.put, List.setIfInBounds_toArray, List.set_cons_zero, List.set_cons_succ, i64_w, i32_w]
             rfl
            refine yq_ (i := 5) (N := some 8) bq_5 (by kernel_rfl) ?_
            refine done_ (by kernel_rfl) ?_
            try go_wp2
            have n0_ := Aside0.mk (blk_drew BK197.out)
            have n1_ := Aside0.mk (blk_drew BK198.out)
            have n2_ := Aside0.mk (blk_drew BK200.out)
            have n3_ := Aside0.mk (below_drew1 HB.out)
            clear BK197 BK198 BK200 HB
            have BK197 := n0_
            have BK198 := n1_
            have BK200 := n2_
            have HB := n3_
            clear n0_ n1_ n2_ n3_
            have p203 : 0 ≤ (t202 : Int) := of_decide_eq_true tq_4
            have q203 : t202 < (l1_0.length : Int) := of_decide_eq_true tq_4
            obtain ⟨ad203, e203, hx203_0, hx203_1, hx203_2⟩ := at_T38 HR1_0.out t202 p203 q203
            have hw203_2 := hx203_2
            have hw203_1 := hx203_1
            have hw203_0 := hx203_0
            cases e203
            replace hx203_0 := hx_ HB.out hx203_0
            replace hx203_1 := hx_ HB.out hx203_1
            replace hx203_2 := hx_ HB.out hx203_2
            replace p203 := eq_true p203
            replace q203 := eq_true q203
            have p204 : 0 ≤ (t202 : Int) := of_decide_eq_true tq_4
            have q204 : t202 < (l1_0.length : Int) := of_decide_eq_true tq_4
            obtain ⟨ad204, e204, hx204_0, hx204_1, hx204_2⟩ := at_T38 HR1_0.out t202 p204 q204
            have hw204_2 := hx204_2
            have hw204_1 := hx204_1
            have hw204_0 := hx204_0
            obtain rfl : ad203 = ad204 := (by injection e204)
            replace hx204_0 := hx_ HB.out hx204_0
            replace hx204_1 := hx_ HB.out hx204_1
            replace hx204_2 := hx_ HB.out hx204_2
            replace p204 := eq_true p204
            replace q204 := eq_true q204
            refine start_ (n := 31) (S := fun w' => w'.cell? ⟨gb198, 0, none⟩ = some (.slice (some ad203) l1_0.length c1_0) ∧ w'.cell? ⟨gb200, 0, none⟩ = some (.int .i64 ((rd_T49 l0_2 x6_1).f0)) ∧ w'.cell? ⟨gb200, 1, none⟩ = some (.int .i64 ((rd_T49 l0_2 x6_1).f1)) ∧ w'.cell? ⟨gb200, 2, none⟩ = some (.int .i64 ((rd_T49 l0_2 x6_1).f2)) ∧ w'.cell? ⟨gb200, 3, none⟩ = some (.string ((rd_T49 l0_2 x6_1).f3)) ∧ w'.cell? ⟨gb200, 4, none⟩ = some (.slice A199_4 ((rd_T49 l0_2 x6_1).f4).length c199_4) ∧ w'.cell? ⟨gb200, 5, none⟩ = some (.slice A199_5 ((rd_T49 l0_2 x6_1).f5).length c199_5) ∧ w'.cell? (ad203.add ((t202).toNat * 3)) = some (.string ((rd_T38 l1_0 t202).f0)) ∧ w'.cell? ⟨(ad203.add ((t202).toNat * 3)).block, (ad203.add ((t202).toNat * 3)).off + 1, none⟩ = some (.bool ((rd_T38 l1_0 t202).f1)) ∧ w'.cell? ⟨(ad203.add ((t202).toNat * 3)).block, (ad203.add ((t202).toNat * 3)).off + 2, none⟩ = some (.string ((rd_T38 l1_0 t202).f2)) ∧ w'.cell? (ad203.add ((t202).toNat * 3)) = some (.string ((rd_T38 l1_0 t202).f0)) ∧ w'.cell? ⟨(ad203.add ((t202).toNat * 3)).block, (ad203.add ((t202).toNat * 3)).off + 1, none⟩ = some (.bool ((rd_T38 l1_0 t202).f1)) ∧ w'.cell? ⟨(ad203.add ((t202).toNat * 3)).block, (ad203.add ((t202).toNat * 3)).off + 2, none⟩ = some (.string ((rd_T38 l1_0 t202).f2))) (ds := []) bq_7 (by kernel_rfl) rfl rfl ⟨(blk_cell BK198.out 0).trans rfl, (blk_cell BK200.out 0).trans rfl, (blk_cell BK200.out 1).trans rfl, (blk_cell BK200.out 2).trans rfl, (blk_cell BK200.out 3).trans rfl, (blk_cell BK200.out 4).trans rfl, (blk_cell BK200.out 5).trans rfl, ((HB.out.cell (World.block_lt_of_cell? w _ hw203_0)).trans hw203_0), ((HB.out.cell (World.block_lt_of_cell? w _ hw203_1)).trans hw203_1), ((HB.out.cell (World.block_lt_of_cell? w _ hw203_2)).trans hw203_2), ((HB.out.cell (World.block_lt_of_cell? w _ hw204_0)).trans hw204_0), ((HB.out.cell (World.block_lt_of_cell? w _ hw204_1)).trans hw204_1), ((HB.out.cell (World.block_lt_of_cell? w _ hw204_2)).trans hw204_2)⟩ (fun hHeld => ?_); refine with_tabW spec_Fits.tab9 spec_Fits.bits9 (fun HT_ HW_ => ?_)
            generalize w64.drew = w65 at BK197 BK198 BK200 HB hx203_0 hx203_1 hx203_2 hx204_0 hx204_1 hx204_2 hHeld ⊢
            refine yq_ (i := 0) (N := some 31) bq_8 (any_of HT_.out (by kernel_rfl)) ?_
            refine yq_ (i := 1) (N := some 32) bq_9 (any_of HT_.out (by kernel_rfl)) ?_
            refine yq_ (i := 2) (N := some 33) bq_10 (any_of HT_.out (by kernel_rfl)) ?_
            refine yq_ (i := 3) (N := some 34) bq_11 (any_of HT_.out (by kernel_rfl)) ?_
            refine yq_ (i := 5) (N := some 36) bq_39 (any_of HT_.out (by kernel_rfl)) ?_
            refine yq_ (i := 9) (N := some 40) bq_40 (any_of HT_.out (by kernel_rfl)) ?_
            refine take_ (i := 4) (N := some 35) (v := ?_) (a' := ?_) bq_41 rfl rfl (take_ofW HT_.out HW_.out (by kernel_rfl)) (fun _ _ _ h => h) (Or.inl ⟨by rfl, ?_⟩) hHeld ?_ ?_
            rotate_left
            ·rintro w' ⟨s0, s1, s2, s3, s4, s5, s6, s7, s8, s9, s10, s11, s12⟩
             go_simp
             with_reducible rfl
            rotate_left
            ·simp only [Act.put, List.setIfInBounds_toArray, List.set_cons_zero, List.set_cons_succ, i64_w, i32_w]
             rfl
            refine yq_ (i := 6) (N := some 37) bq_42 (any_of HT_.out (by kernel_rfl)) ?_
            refine yq_ (i := 7) (N := some 38) bq_43 (any_of HT_.out (by kernel_rfl)) ?_
            refine take_ (i := 8) (N := some 39) (v := ?_) (a' := ?_) bq_12 rfl rfl (take_ofW HT_.out HW_.out (by kernel_rfl)) (fun _ _ _ h => h) (Or.inl ⟨by rfl, ?_⟩) hHeld ?_ ?_
            rotate_left
            ·rintro w' ⟨s0, s1, s2, s3, s4, s5, s6, s7, s8, s9, s10, s11, s12⟩
             go_simp
             with_reducible rfl
            rotate_left
            ·simp only [Act.put, List.setIfInBounds_toArray, List.set_cons_zero, List.set_cons_succ, i64_w, i32_w]
             rfl
            refine take_ (i := 10) (N := some 41) (v := ?_) (a' := ?_) bq_13 rfl rfl (take_ofW HT_.out HW_.out (by kernel_rfl)) (fun _ _ _ h => h) (Or.inl ⟨by rfl, ?_⟩) hHeld ?_ ?_
            rotate_left
            ·rintro w' ⟨s0, s1, s2, s3, s4, s5, s6, s7, s8, s9, s10, s11, s12⟩
             go_simp
             with_reducible rfl
            rotate_left
            ·simp only [Act.put, List.setIfInBounds_toArray, List.set_cons_zero, List.set_cons_succ, i64_w, i32_w]
             rfl
            refine yq_ (i := 11) (N := some 42) bq_14 (any_of HT_.out (by kernel_rfl)) ?_
            refine yq_ (i := 12) (N := some 43) bq_15 (any_of HT_.out (by kernel_rfl)) ?_
            refine yq_ (i := 13) (N := some 44) bq_16 (any_of HT_.out (by kernel_rfl)) ?_
            refine yq_ (i := 14) (N := some 45) bq_17 (any_of HT_.out (by kernel_rfl)) ?_
            refine yq_ (i := 15) (N := some 46) bq_18 (any_of HT_.out (by kernel_rfl)) ?_
            refine take_ (i := 16) (N := some 47) (v := ?_) (a' := ?_) bq_19 rfl rfl (take_ofW HT_.out HW_.out (by kernel_rfl)) (fun _ _ _ h => h) (Or.inl ⟨by rfl, ?_⟩) hHeld ?_ ?_
            rotate_left
            ·rintro w' ⟨s0, s1, s2, s3, s4, s5, s6, s7, s8, s9, s10, s11, s12⟩
             go_simp
             with_reducible rfl
            rotate_left
            ·simp only [Act.put, List.setIfInBounds_toArray, List.set_cons_zero, List.set_cons_succ, i64_w, i32_w]
             rfl
            refine yq_ (i := 17) (N := some 48) bq_20 (any_of HT_.out (by kernel_rfl)) ?_
            refine yq_ (i := 18) (N := some 49) bq_21 (any_of HT_.out (by kernel_rfl)) ?_
            refine yq_ (i := 19) (N := some 50) bq_22 (any_of HT_.out (by kernel_rfl)) ?_
            refine yq_ (i := 21) (N := some 52) bq_56 (any_of HT_.out (by kernel_rfl)) ?_
            refine yq_ (i := 26) (N := some 57) bq_57 (any_of HT_.out (by kernel_rfl)) ?_
            refine take_ (i := 20) (N := some 51) (v := ?_) (a' := ?_) bq_58 rfl rfl (take_ofW HT_.out HW_.out (by kernel_rfl)) (fun _ _ _ h => h) (Or.inl ⟨by rfl, ?_⟩) hHeld ?_ ?_
            rotate_left
            ·rintro w' ⟨s0, s1, s2, s3, s4, s5, s6, s7, s8, s9, s10, s11, s12⟩
             go_simp
             with_reducible rfl
            rotate_left
            ·simp only [Act.put, List.setIfInBounds_toArray, List.set_cons_zero, List.set_cons_succ, i64_w, i32_w]
             rfl
            refine yq_ (i := 22) (N := some 53) bq_59 (any_of HT_.out (by kernel_rfl)) ?_
            refine yq_ (i := 23) (N := some 54) bq_60 (any_of HT_.out (by kernel_rfl)) ?_
            refine take_ (i := 24) (N := some 55) (v := ?_) (a' := ?_) bq_61 rfl rfl (take_ofW HT_.out HW_.out (by kernel_rfl)) (fun _ _ _ h => h) (Or.inl ⟨by rfl, ?_⟩) hHeld ?_ ?_
            rotate_left
            ·rintro w' ⟨s0, s1, s2, s3, s4, s5, s6, s7, s8, s9, s10, s11, s12⟩
             go_simp
             with_reducible rfl
            rotate_left
            ·simp only [Act.put, List.setIfInBounds_toArray, List.set_cons_zero, List.set_cons_succ, i64_w, i32_w]
             rfl
            refine yq_ (i := 25) (N := some 56) bq_23 (any_of HT_.out (by kernel_rfl)) ?_
            refine take_ (i := 27) (N := some 58) (v := ?_) (a' := ?_) bq_24 rfl rfl (take_ofW HT_.out HW_.out (by kernel_rfl)) (fun _ _ _ h => h) (Or.inl ⟨by rfl, ?_⟩) hHeld ?_ ?_
            rotate_left
            ·rintro w' ⟨s0, s1, s2, s3, s4, s5, s6, s7, s8, s9, s10, s11, s12⟩
             go_simp
             with_reducible rfl
            rotate_left
            ·simp only [Act.put, List.setIfInBounds_toArray, List.set_cons_zero, List.set_cons_succ, i64_w, i32_w]
             rfl
            refine yq_ (i := 28) (N := some 59) bq_25 (any_of HT_.out (by kernel_rfl)) ?_
            refine yq_ (i := 29) (N := some 60) bq_26 (any_of HT_.out (by kernel_rfl)) ?_
            refine yq_ (i := 30) (N := some 61) bq_27 (any_of HT_.out (by kernel_rfl)) ?_
            refine done_ (done_of HT_.out (by kernel_rfl)) ?_
            try go_wp2
            go_ret
            exact ⟨by first | rfl | (simp [errW_none, errW_some] <;> rfl) | (simp [*, errW_none, errW_some] <;> rfl), by repeat (first | (with_reducible first | exact HB.out | apply below_alloc | apply pw_below_drewN | apply below_drew1 | refine below_set ?_ GE197.out | refine below_set ?_ GE198.out | refine below_set ?_ GE200.out) | exact HB.out)⟩
          ·rw [if_neg c42] at H
           have c42b0 : (((rd_T49 l0_2 x6_1).f0) == 1) = false := beq_eq_false_iff_ne.mpr c42
           have c42b1 : (((rd_T49 l0_2 x6_1).f0) != 1) = true := bne_iff_ne.mpr c42
           have H' := Aside0.mk H
           clear H
           have hnb66 := NB197_198.out
           have hnc66 := NB198_197.out
           have hcz67_0 := bc_ BK197.out 0
           have hcz67_1 := bc_ BK197.out 1
           have hcz67_2 := bc_ BK197.out 2
           have hfz67_0 := blk_frozen BK197.out 0
           have hfz67_1 := blk_frozen BK197.out 1
           have hfz67_2 := blk_frozen BK197.out 2
           have p199 : 0 ≤ (x6_1 : Int) := of_decide_eq_true tq_4
           have q199 : x6_1 < (l0_2.length : Int) := of_decide_eq_true tq_4
           obtain ⟨ad199, A199_4, c199_4, A199_5, c199_5, e199, hx199_0, hx199_1, hx199_2, hx199_3, hx199_4, hx199_5, hl199_4, hi199_4, hl199_5, hi199_5⟩ := at_T49 HR0_2.out x6_1 p199 q199
           cases e199
           replace hx199_0 := hx_ HB.out hx199_0
           replace hx199_1 := hx_ HB.out hx199_1
           replace hx199_2 := hx_ HB.out hx199_2
           replace hx199_3 := hx_ HB.out hx199_3
           replace hx199_4 := hx_ HB.out hx199_4
           replace hx199_5 := hx_ HB.out hx199_5
           have HR199_4 := Aside0.mk hi199_4
           have HC199_4 := Aside0.mk hl199_4
           clear hi199_4 hl199_4
           have HR199_5 := Aside0.mk hi199_5
           have HC199_5 := Aside0.mk hl199_5
           clear hi199_5 hl199_5
           replace p199 := eq_true p199
           replace q199 := eq_true q199
           try go_wp2_with (first | ((with_reducible refine gate_dst (N := 7) rfl ?_); (try (refine gate_guard (by rfl) ?_; dsimp only)); refine box_event ?hg (N := 7) ?hd (cs := #[.int .i64 0, .int .i64 0, .int .i64 0, .string (⟨#[]⟩ : ByteArray), .slice none 0 0, .slice none 0 0]) (t := 49) ?hr ?_; (case hd => rfl); (case hg => rfl); (case hr => first | (go_simp; done) | (go_simp; rfl)); intro gb200 hg w68 hbox hb; have n0_ := Aside0.mk (blk_below tq_15 hb); have n1_ := Aside0.mk (blk_below tq_19 hb); have n2_ := Aside0.mk (below_step tq_17 hb); have n3_ := Aside0.mk (hbox); have n4_ := Aside0.mk (gb_ hg tq_17); have n5_ := Aside0.mk (gb_ hg tq_17); have n6_ := Aside0.mk (ltne_ hg (blk_lt tq_15)); have n7_ := Aside0.mk (gtne_ hg (blk_lt tq_15)); have n8_ := Aside0.mk (ltne_ hg (blk_lt tq_19)); have n9_ := Aside0.mk (gtne_ hg (blk_lt tq_19)); clear BK197 BK198 HB; have BK197 := n0_; have BK198 := n1_; have HB := n2_; have BK200 := n3_; have GW200 := n4_; have GE200 := n5_; have NB197_200 := n6_; have NB200_197 := n7_; have NB198_200 := n8_; have NB200_198 := n9_; clear n0_ n1_ n2_ n3_ n4_ n5_ n6_ n7_ n8_ n9_; clear hb hbox hg; have hnb69 := NB200_197.out; have hnc69 := NB197_200.out; have hnb70 := NB200_198.out; have hnc70 := NB198_200.out; have hcz71_0 := bc_ BK200.out 0; have hcz71_1 := bc_ BK200.out 1; have hcz71_2 := bc_ BK200.out 2; have hcz71_3 := bc_ BK200.out 3; have hcz71_4 := bc_ BK200.out 4; have hcz71_5 := bc_ BK200.out 5; have hfz71_0 := blk_frozen BK200.out 0; have hfz71_1 := blk_frozen BK200.out 1; have hfz71_2 := blk_frozen BK200.out 2; have hfz71_3 := blk_frozen BK200.out 3; have hfz71_4 := blk_frozen BK200.out 4; have hfz71_5 := blk_frozen BK200.out 5))
           have n0_ : Aside0 (((((((w68.setCell ⟨gb200, 0, none⟩ (.int .i64 ((rd_T49 l0_2 x6_1).f0))).setCell ⟨gb200, 1, none⟩ (.int .i64 ((rd_T49 l0_2 x6_1).f1))).setCell ⟨gb200, 2, none⟩ (.int .i64 ((rd_T49 l0_2 x6_1).f2))).setCell ⟨gb200, 3, none⟩ (.string ((rd_T49 l0_2 x6_1).f3))).setCell ⟨gb200, 4, none⟩ (.slice A199_4 ((rd_T49 l0_2 x6_1).f4).length c199_4)).setCell ⟨gb200, 5, none⟩ (.slice A199_5 ((rd_T49 l0_2 x6_1).f5).length c199_5)).heap[gb197]? = some (.cells #[.int .i64 a0_0, .slice A0_1 l0_1.length c0_1, .slice (some ad199) l0_2.length c0_2] 69 (0, 0))) := ⟨by (with_reducible repeat (first | refine blk_drewN ?_ _ | refine blk_drew ?_ | refine blk_alloc ?_ _)); refine blk_far ?_ NB197_200.out _; (with_reducible repeat (first | refine blk_drewN ?_ _ | refine blk_drew ?_ | refine blk_alloc ?_ _)); refine blk_far ?_ NB197_200.out _; (with_reducible repeat (first | refine blk_drewN ?_ _ | refine blk_drew ?_ | refine blk_alloc ?_ _)); refine blk_far ?_ NB197_200.out _; (with_reducible repeat (first | refine blk_drewN ?_ _ | refine blk_drew ?_ | refine blk_alloc ?_ _)); refine blk_far ?_ NB197_200.out _; (with_reducible repeat (first | refine blk_drewN ?_ _ | refine blk_drew ?_ | refine blk_alloc ?_ _)); refine blk_far ?_ NB197_200.out _; (with_reducible repeat (first | refine blk_drewN ?_ _ | refine blk_drew ?_ | refine blk_alloc ?_ _)); refine blk_far ?_ NB197_200.out _; (with_reducible repeat (first | refine blk_drewN ?_ _ | refine blk_drew ?_ | refine blk_alloc ?_ _)); exact BK197.out⟩
           have n1_ : Aside0 (((((((w68.setCell ⟨gb200, 0, none⟩ (.int .i64 ((rd_T49 l0_2 x6_1).f0))).setCell ⟨gb200, 1, none⟩ (.int .i64 ((rd_T49 l0_2 x6_1).f1))).setCell ⟨gb200, 2, none⟩ (.int .i64 ((rd_T49 l0_2 x6_1).f2))).setCell ⟨gb200, 3, none⟩ (.string ((rd_T49 l0_2 x6_1).f3))).setCell ⟨gb200, 4, none⟩ (.slice A199_4 ((rd_T49 l0_2 x6_1).f4).length c199_4)).setCell ⟨gb200, 5, none⟩ (.slice A199_5 ((rd_T49 l0_2 x6_1).f5).length c199_5)).heap[gb198]? = some (.cells #[.slice A1_0 l1_0.length c1_0] 28 (0, 0))) := ⟨by (with_reducible repeat (first | refine blk_drewN ?_ _ | refine blk_drew ?_ | refine blk_alloc ?_ _)); refine blk_far ?_ NB198_200.out _; (with_reducible repeat (first | refine blk_drewN ?_ _ | refine blk_drew ?_ | refine blk_alloc ?_ _)); refine blk_far ?_ NB198_200.out _; (with_reducible repeat (first | refine blk_drewN ?_ _ | refine blk_drew ?_ | refine blk_alloc ?_ _)); refine blk_far ?_ NB198_200.out _; (with_reducible repeat (first | refine blk_drewN ?_ _ | refine blk_drew ?_ | refine blk_alloc ?_ _)); refine blk_far ?_ NB198_200.out _; (with_reducible repeat (first | refine blk_drewN ?_ _ | refine blk_drew ?_ | refine blk_alloc ?_ _)); refine blk_far ?_ NB198_200.out _; (with_reducible repeat (first | refine blk_drewN ?_ _ | refine blk_drew ?_ | refine blk_alloc ?_ _)); refine blk_far ?_ NB198_200.out _; (with_reducible repeat (first | refine blk_drewN ?_ _ | refine blk_drew ?_ | refine blk_alloc ?_ _)); exact BK198.out⟩
           have n2_ : Aside0 (((((((w68.setCell ⟨gb200, 0, none⟩ (.int .i64 ((rd_T49 l0_2 x6_1).f0))).setCell ⟨gb200, 1, none⟩ (.int .i64 ((rd_T49 l0_2 x6_1).f1))).setCell ⟨gb200, 2, none⟩ (.int .i64 ((rd_T49 l0_2 x6_1).f2))).setCell ⟨gb200, 3, none⟩ (.string ((rd_T49 l0_2 x6_1).f3))).setCell ⟨gb200, 4, none⟩ (.slice A199_4 ((rd_T49 l0_2 x6_1).f4).length c199_4)).setCell ⟨gb200, 5, none⟩ (.slice A199_5 ((rd_T49 l0_2 x6_1).f5).length c199_5)).heap[gb200]? = some (.cells #[.int .i64 ((rd_T49 l0_2 x6_1).f0), .int .i64 ((rd_T49 l0_2 x6_1).f1), .int .i64 ((rd_T49 l0_2 x6_1).f2), .string ((rd_T49 l0_2 x6_1).f3), .slice A199_4 ((rd_T49 l0_2 x6_1).f4).length c199_4, .slice A199_5 ((rd_T49 l0_2 x6_1).f5).length c199_5] 49 (0, 0))) := ⟨by (with_reducible repeat (first | refine blk_drewN ?_ _ | refine blk_drew ?_ | refine blk_alloc ?_ _)); refine blk_put (cs := #[.int .i64 ((rd_T49 l0_2 x6_1).f0), .int .i64 ((rd_T49 l0_2 x6_1).f1), .int .i64 ((rd_T49 l0_2 x6_1).f2), .string ((rd_T49 l0_2 x6_1).f3), .slice A199_4 ((rd_T49 l0_2 x6_1).f4).length c199_4, .slice none 0 0]) ?_ 5 _ rfl; (with_reducible repeat (first | refine blk_drewN ?_ _ | refine blk_drew ?_ | refine blk_alloc ?_ _)); refine blk_put (cs := #[.int .i64 ((rd_T49 l0_2 x6_1).f0), .int .i64 ((rd_T49 l0_2 x6_1).f1), .int .i64 ((rd_T49 l0_2 x6_1).f2), .string ((rd_T49 l0_2 x6_1).f3), .slice none 0 0, .slice none 0 0]) ?_ 4 _ rfl; (with_reducible repeat (first | refine blk_drewN ?_ _ | refine blk_drew ?_ | refine blk_alloc ?_ _)); refine blk_put (cs := #[.int .i64 ((rd_T49 l0_2 x6_1).f0), .int .i64 ((rd_T49 l0_2 x6_1).f1), .int .i64 ((rd_T49 l0_2 x6_1).f2), .string (⟨#[]⟩ : ByteArray), .slice none 0 0, .slice none 0 0]) ?_ 3 _ rfl; (with_reducible repeat (first | refine blk_drewN ?_ _ | refine blk_drew ?_ | refine blk_alloc ?_ _)); refine blk_put (cs := #[.int .i64 ((rd_T49 l0_2 x6_1).f0), .int .i64 ((rd_T49 l0_2 x6_1).f1), .int .i64 0, .string (⟨#[]⟩ : ByteArray), .slice none 0 0, .slice none 0 0]) ?_ 2 _ rfl; (with_reducible repeat (first | refine blk_drewN ?_ _ | refine blk_drew ?_ | refine blk_alloc ?_ _)); refine blk_put (cs := #[.int .i64 ((rd_T49 l0_2 x6_1).f0), .int .i64 0, .int .i64 0, .string (⟨#[]⟩ : ByteArray), .slice none 0 0, .slice none 0 0]) ?_ 1 _ rfl; (with_reducible repeat (first | refine blk_drewN ?_ _ | refine blk_drew ?_ | refine blk_alloc ?_ _)); refine blk_put (cs := #[.int .i64 0, .int .i64 0, .int .i64 0, .string (⟨#[]⟩ : ByteArray), .slice none 0 0, .slice none 0 0]) ?_ 0 _ rfl; (with_reducible repeat (first | refine blk_drewN ?_ _ | refine blk_drew ?_ | refine blk_alloc ?_ _)); exact BK200.out⟩
           have n3_ : Aside0 (Below w.heap.size w ((((((w68.setCell ⟨gb200, 0, none⟩ (.int .i64 ((rd_T49 l0_2 x6_1).f0))).setCell ⟨gb200, 1, none⟩ (.int .i64 ((rd_T49 l0_2 x6_1).f1))).setCell ⟨gb200, 2, none⟩ (.int .i64 ((rd_T49 l0_2 x6_1).f2))).setCell ⟨gb200, 3, none⟩ (.string ((rd_T49 l0_2 x6_1).f3))).setCell ⟨gb200, 4, none⟩ (.slice A199_4 ((rd_T49 l0_2 x6_1).f4).length c199_4)).setCell ⟨gb200, 5, none⟩ (.slice A199_5 ((rd_T49 l0_2 x6_1).f5).length c199_5))) := ⟨by repeat (first | (with_reducible first | exact HB.out | apply below_alloc | apply pw_below_drewN | apply below_drew1 | refine below_set ?_ GE197.out | refine below_set ?_ GE198.out | refine below_set ?_ GE200.out) | exact HB.out)⟩
           (try clear BK197)
           (try clear BK198)
           (try clear BK200)
           (try clear HB)
           generalize ((((((w68.setCell ⟨gb200, 0, none⟩ (.int .i64 ((rd_T49 l0_2 x6_1).f0))).setCell ⟨gb200, 1, none⟩ (.int .i64 ((rd_T49 l0_2 x6_1).f1))).setCell ⟨gb200, 2, none⟩ (.int .i64 ((rd_T49 l0_2 x6_1).f2))).setCell ⟨gb200, 3, none⟩ (.string ((rd_T49 l0_2 x6_1).f3))).setCell ⟨gb200, 4, none⟩ (.slice A199_4 ((rd_T49 l0_2 x6_1).f4).length c199_4)).setCell ⟨gb200, 5, none⟩ (.slice A199_5 ((rd_T49 l0_2 x6_1).f5).length c199_5)) = w72 at n0_ n1_ n2_ n3_ ⊢
           have BK197 := n0_
           have BK198 := n1_
           have BK200 := n2_
           have HB := n3_
           clear n0_ n1_ n2_ n3_
           have n0_ := Aside0.mk (blk_drew BK197.out)
           have n1_ := Aside0.mk (blk_drew BK198.out)
           have n2_ := Aside0.mk (blk_drew BK200.out)
           have n3_ := Aside0.mk (below_drew1 HB.out)
           clear BK197 BK198 BK200 HB
           have BK197 := n0_
           have BK198 := n1_
           have BK200 := n2_
           have HB := n3_
           clear n0_ n1_ n2_ n3_
           refine start_ (n := 6) (S := fun w' => w'.cell? ⟨gb198, 0, none⟩ = some (.slice A1_0 l1_0.length c1_0) ∧ w'.cell? ⟨gb197, 0, none⟩ = some (.int .i64 a0_0) ∧ w'.cell? ⟨gb197, 1, none⟩ = some (.slice A0_1 l0_1.length c0_1) ∧ w'.cell? ⟨gb197, 2, none⟩ = some (.slice (some ad199) l0_2.length c0_2)) (ds := []) bq_0 (by kernel_rfl) rfl rfl ⟨(blk_cell BK198.out 0).trans rfl, (blk_cell BK197.out 0).trans rfl, (blk_cell BK197.out 1).trans rfl, (blk_cell BK197.out 2).trans rfl⟩ (fun hHeld => ?_)
           generalize w72.drew = w73 at BK197 BK198 BK200 HB hHeld ⊢
           refine yq_ (i := 2) (N := some 28) bq_6 (by kernel_rfl) ?_
           refine take_ (i := 0) (N := some 26) (v := ?_) (a' := ?_) bq_1 rfl rfl (by kernel_rfl) (fun _ _ _ h => h) (Or.inl ⟨by rfl, ?_⟩) hHeld ?_ ?_
           rotate_left
           ·rintro w' ⟨s0, s1, s2, s3⟩
            go_simp
            with_reducible rfl
           rotate_left
           ·simp only [Act.put, List.setIfInBounds_toArray, List.set_cons_zero, List.set_cons_succ, i64_w, i32_w]
            rfl
           refine take_ (i := 1) (N := some 27) (v := ?_) (a' := ?_) bq_2 rfl rfl (by kernel_rfl) (fun _ _ _ h => h) (Or.inl ⟨by rfl, ?_⟩) hHeld ?_ ?_
           rotate_left
           ·rintro w' ⟨s0, s1, s2, s3⟩
            go_simp
            with_reducible rfl
           rotate_left
           ·simp only [Act.put, List.setIfInBounds_toArray, List.set_cons_zero, List.set_cons_succ, i64_w, i32_w]
            rfl
           refine one_ (i := 3) (N := some 29) bq_3 rfl rfl (by kernel_rfl) (by decide) (fun K hK => ?_)
           refine goes_ Try.func133 (by kernel_rfl) rfl #[.agg #[.int .i64 a0_0, .slice A0_1 l0_1.length c0_1, .slice (some ad199) l0_2.length c0_2], .int .i64 x6_1] (by rfl) rfl rfl tq_1 ?_
           with_reducible refine (spec_PathTo.calls k1 a0_0 _ _ l0_1 _ _ l0_2 x6_1 t201 _ ?side1 ?side2 ?side3 ?side4 A14.out).mono ?_
           (case side1 => exact tq_6)
           (case side2 => exact HC0_1.out)
           (case side3 => exact tq_7)
           (case side4 => exact HC0_2.out)
           rintro e w74 ⟨rfl, hb⟩
           refine ⟨_, rfl, ?_⟩
           have n0_ := Aside0.mk (blk_below tq_15 hb)
           have n1_ := Aside0.mk (blk_below tq_19 hb)
           have n2_ := Aside0.mk (blk_below tq_47 hb)
           have n3_ := Aside0.mk (below_step tq_28 hb)
           clear BK197 BK198 BK200 HB
           have BK197 := n0_
           have BK198 := n1_
           have BK200 := n2_
           have HB := n3_
           clear n0_ n1_ n2_ n3_
           (try clear hb)
           (try clear hb2)
           (try clear hk)
           (try clear hi)
           refine hK.out _ _ ⟨(blk_cell BK198.out 0).trans rfl, (blk_cell BK197.out 0).trans rfl, (blk_cell BK197.out 1).trans rfl, (blk_cell BK197.out 2).trans rfl⟩ (fun hHeld => ?_)
           clear hK K
           refine norm_ (a' := ?_) ?_ ?_
           rotate_left
           ·show Act.put _ (some 29) _ = _
            simp only [Act.put, List.setIfInBounds_toArray, List.set_cons_zero, List.set_cons_succ, i64_w, i32_w]
            rfl
           refine one_ (i := 4) (N := some 30) bq_4 rfl rfl (by kernel_rfl) (by decide) (fun K hK => ?_)
           refine goes_ Try.func132 (by kernel_rfl) rfl #[.agg #[.slice A1_0 l1_0.length c1_0], .string t201] (by rfl) rfl rfl tq_1 ?_
           with_reducible refine (spec_ItemAt.calls k1 _ _ l1_0 t201 t202 _ ?side1 ?side2 A15.out).mono ?_
           (case side1 => exact tq_14)
           (case side2 => exact HC1_0.out)
           rintro e w75 ⟨rfl, hb⟩
           refine ⟨_, rfl, ?_⟩
           have n0_ := Aside0.mk (blk_below tq_15 hb)
           have n1_ := Aside0.mk (blk_below tq_19 hb)
           have n2_ := Aside0.mk (blk_below tq_47 hb)
           have n3_ := Aside0.mk (below_step tq_28 hb)
           clear BK197 BK198 BK200 HB
           have BK197 := n0_
           have BK198 := n1_
           have BK200 := n2_
           have HB := n3_
           clear n0_ n1_ n2_ n3_
           (try clear hb)
           (try clear hb2)
           (try clear hk)
           (try clear hi)
           refine hK.out _ _ ⟨(blk_cell BK198.out 0).trans rfl, (blk_cell BK197.out 0).trans rfl, (blk_cell BK197.out 1).trans rfl, (blk_cell BK197.out 2).trans rfl⟩ (fun hHeld => ?_)
           clear hK K
           refine norm_ (a' := ?_) ?_ ?_
           rotate_left
           ·show Act.put _ (some 30) _ = _
            simp only [Act.put, List.setIfInBounds_toArray, List.set_cons_zero, List.set_cons_succ, i64_w, i32_w]
            rfl
           refine yq_ (i := 5) (N := some 8) bq_5 (by kernel_rfl) ?_
           refine done_ (by kernel_rfl) ?_
           try go_wp2
           have n0_ := Aside0.mk (blk_drew BK197.out)
           have n1_ := Aside0.mk (blk_drew BK198.out)
           have n2_ := Aside0.mk (blk_drew BK200.out)
           have n3_ := Aside0.mk (below_drew1 HB.out)
           clear BK197 BK198 BK200 HB
           have BK197 := n0_
           have BK198 := n1_
           have BK200 := n2_
           have HB := n3_
           clear n0_ n1_ n2_ n3_
           have p203 : 0 ≤ (t202 : Int) := of_decide_eq_true tq_4
           have q203 : t202 < (l1_0.length : Int) := of_decide_eq_true tq_4
           obtain ⟨ad203, e203, hx203_0, hx203_1, hx203_2⟩ := at_T38 HR1_0.out t202 p203 q203
           have hw203_2 := hx203_2
           have hw203_1 := hx203_1
           have hw203_0 := hx203_0
           cases e203
           replace hx203_0 := hx_ HB.out hx203_0
           replace hx203_1 := hx_ HB.out hx203_1
           replace hx203_2 := hx_ HB.out hx203_2
           replace p203 := eq_true p203
           replace q203 := eq_true q203
           refine start_ (n := 31) (S := fun w' => w'.cell? ⟨gb198, 0, none⟩ = some (.slice (some ad203) l1_0.length c1_0) ∧ w'.cell? ⟨gb200, 0, none⟩ = some (.int .i64 ((rd_T49 l0_2 x6_1).f0)) ∧ w'.cell? ⟨gb200, 1, none⟩ = some (.int .i64 ((rd_T49 l0_2 x6_1).f1)) ∧ w'.cell? ⟨gb200, 2, none⟩ = some (.int .i64 ((rd_T49 l0_2 x6_1).f2)) ∧ w'.cell? ⟨gb200, 3, none⟩ = some (.string ((rd_T49 l0_2 x6_1).f3)) ∧ w'.cell? ⟨gb200, 4, none⟩ = some (.slice A199_4 ((rd_T49 l0_2 x6_1).f4).length c199_4) ∧ w'.cell? ⟨gb200, 5, none⟩ = some (.slice A199_5 ((rd_T49 l0_2 x6_1).f5).length c199_5) ∧ w'.cell? (ad203.add ((t202).toNat * 3)) = some (.string ((rd_T38 l1_0 t202).f0)) ∧ w'.cell? ⟨(ad203.add ((t202).toNat * 3)).block, (ad203.add ((t202).toNat * 3)).off + 1, none⟩ = some (.bool ((rd_T38 l1_0 t202).f1)) ∧ w'.cell? ⟨(ad203.add ((t202).toNat * 3)).block, (ad203.add ((t202).toNat * 3)).off + 2, none⟩ = some (.string ((rd_T38 l1_0 t202).f2))) (ds := []) bq_7 (by kernel_rfl) rfl rfl ⟨(blk_cell BK198.out 0).trans rfl, (blk_cell BK200.out 0).trans rfl, (blk_cell BK200.out 1).trans rfl, (blk_cell BK200.out 2).trans rfl, (blk_cell BK200.out 3).trans rfl, (blk_cell BK200.out 4).trans rfl, (blk_cell BK200.out 5).trans rfl, ((HB.out.cell (World.block_lt_of_cell? w _ hw203_0)).trans hw203_0), ((HB.out.cell (World.block_lt_of_cell? w _ hw203_1)).trans hw203_1), ((HB.out.cell (World.block_lt_of_cell? w _ hw203_2)).trans hw203_2)⟩ (fun hHeld => ?_); refine with_tabW spec_Fits.tab9 spec_Fits.bits9 (fun HT_ HW_ => ?_)
           generalize w75.drew = w76 at BK197 BK198 BK200 HB hx203_0 hx203_1 hx203_2 hHeld ⊢
           refine yq_ (i := 0) (N := some 31) bq_8 (any_of HT_.out (by kernel_rfl)) ?_
           refine yq_ (i := 1) (N := some 32) bq_9 (any_of HT_.out (by kernel_rfl)) ?_
           refine yq_ (i := 2) (N := some 33) bq_10 (any_of HT_.out (by kernel_rfl)) ?_
           refine yq_ (i := 3) (N := some 34) bq_11 (any_of HT_.out (by kernel_rfl)) ?_
           refine yq_ (i := 5) (N := some 36) bq_39 (any_of HT_.out (by kernel_rfl)) ?_
           refine yq_ (i := 9) (N := some 40) bq_40 (any_of HT_.out (by kernel_rfl)) ?_
           refine take_ (i := 4) (N := some 35) (v := ?_) (a' := ?_) bq_41 rfl rfl (take_ofW HT_.out HW_.out (by kernel_rfl)) (fun _ _ _ h => h) (Or.inl ⟨by rfl, ?_⟩) hHeld ?_ ?_
           rotate_left
           ·rintro w' ⟨s0, s1, s2, s3, s4, s5, s6, s7, s8, s9⟩
            go_simp
            with_reducible rfl
           rotate_left
           ·simp only [Act.put, List.setIfInBounds_toArray, List.set_cons_zero, List.set_cons_succ, i64_w, i32_w]
            rfl
           refine yq_ (i := 6) (N := some 37) bq_42 (any_of HT_.out (by kernel_rfl)) ?_
           refine yq_ (i := 7) (N := some 38) bq_43 (any_of HT_.out (by kernel_rfl)) ?_
           refine take_ (i := 8) (N := some 39) (v := ?_) (a' := ?_) bq_12 rfl rfl (take_ofW HT_.out HW_.out (by kernel_rfl)) (fun _ _ _ h => h) (Or.inl ⟨by rfl, ?_⟩) hHeld ?_ ?_
           rotate_left
           ·rintro w' ⟨s0, s1, s2, s3, s4, s5, s6, s7, s8, s9⟩
            go_simp
            with_reducible rfl
           rotate_left
           ·simp only [Act.put, List.setIfInBounds_toArray, List.set_cons_zero, List.set_cons_succ, i64_w, i32_w]
            rfl
           refine take_ (i := 10) (N := some 41) (v := ?_) (a' := ?_) bq_13 rfl rfl (take_ofW HT_.out HW_.out (by kernel_rfl)) (fun _ _ _ h => h) (Or.inl ⟨by rfl, ?_⟩) hHeld ?_ ?_
           rotate_left
           ·rintro w' ⟨s0, s1, s2, s3, s4, s5, s6, s7, s8, s9⟩
            go_simp
            with_reducible rfl
           rotate_left
           ·simp only [Act.put, List.setIfInBounds_toArray, List.set_cons_zero, List.set_cons_succ, i64_w, i32_w]
            rfl
           refine yq_ (i := 11) (N := some 42) bq_14 (any_of HT_.out (by kernel_rfl)) ?_
           refine yq_ (i := 12) (N := some 43) bq_15 (any_of HT_.out (by kernel_rfl)) ?_
           refine yq_ (i := 13) (N := some 44) bq_16 (any_of HT_.out (by kernel_rfl)) ?_
           refine yq_ (i := 14) (N := some 45) bq_17 (any_of HT_.out (by kernel_rfl)) ?_
           refine yq_ (i := 15) (N := some 46) bq_18 (any_of HT_.out (by kernel_rfl)) ?_
           refine take_ (i := 16) (N := some 47) (v := ?_) (a' := ?_) bq_19 rfl rfl (take_ofW HT_.out HW_.out (by kernel_rfl)) (fun _ _ _ h => h) (Or.inl ⟨by rfl, ?_⟩) hHeld ?_ ?_
           rotate_left
           ·rintro w' ⟨s0, s1, s2, s3, s4, s5, s6, s7, s8, s9⟩
            go_simp
            with_reducible rfl
           rotate_left
           ·simp only [Act.put, List.setIfInBounds_toArray, List.set_cons_zero, List.set_cons_succ, i64_w, i32_w]
            rfl
           refine yq_ (i := 17) (N := some 48) bq_20 (any_of HT_.out (by kernel_rfl)) ?_
           refine yq_ (i := 18) (N := some 49) bq_21 (any_of HT_.out (by kernel_rfl)) ?_
           refine uq_ (i := 19) (N := some 50) bq_22 (any_of HT_.out (by kernel_rfl)) ?_
           refine uq_ (i := 20) (N := some 51) bq_44 (any_of HT_.out (by kernel_rfl)) ?_
           refine uq_ (i := 21) (N := some 52) bq_45 (any_of HT_.out (by kernel_rfl)) ?_
           refine uq_ (i := 22) (N := some 53) bq_46 (any_of HT_.out (by kernel_rfl)) ?_
           refine uq_ (i := 23) (N := some 54) bq_47 (any_of HT_.out (by kernel_rfl)) ?_
           refine uq_ (i := 24) (N := some 55) bq_48 (any_of HT_.out (by kernel_rfl)) ?_
           refine uq_ (i := 25) (N := some 56) bq_49 (any_of HT_.out (by kernel_rfl)) ?_
           refine uq_ (i := 26) (N := some 57) bq_23 (any_of HT_.out (by kernel_rfl)) ?_
           refine uq_ (i := 27) (N := some 58) bq_24 (any_of HT_.out (by kernel_rfl)) ?_
           refine uq_ (i := 28) (N := some 59) bq_25 (any_of HT_.out (by kernel_rfl)) ?_
           refine yq_ (i := 29) (N := some 60) bq_26 (any_of HT_.out (by kernel_rfl)) ?_
           refine yq_ (i := 30) (N := some 61) bq_27 (any_of HT_.out (by kernel_rfl)) ?_
           refine done_ (done_of HT_.out (by kernel_rfl)) ?_
           try go_wp2
           go_roundg k1
           case measure => have := HK1.out; omega
           case rel => exact ⟨(wrap64 (x5_1 + 1)), (wrap64 (x6_1 + 1)), tq_11, tq_11, H', ⟨by have := HK1.out; omega⟩, ⟨by (with_reducible repeat (first | refine blk_drewN ?_ _ | refine blk_drew ?_ | refine blk_alloc ?_ _)); exact BK197.out⟩, ⟨by (with_reducible repeat (first | refine blk_drewN ?_ _ | refine blk_drew ?_ | refine blk_alloc ?_ _)); exact BK198.out⟩, ⟨by repeat (first | (with_reducible first | exact HB.out | apply below_alloc | apply pw_below_drewN | apply below_drew1 | refine below_set ?_ GE197.out | refine below_set ?_ GE198.out | refine below_set ?_ GE200.out) | exact HB.out)⟩⟩
        ·rw [if_neg c29] at H
         exact absurd H (by simp)
       ·rw [if_neg c28] at H
        exact absurd H (by simp)
    ·rw [if_neg c6] at H
     exact absurd H (by simp)
   ·rw [if_neg c5] at H
    have c5b0 : decide (x6_1 < (l0_2.length : Int)) = false := decide_eq_false c5
    clear c5
    obtain rfl := Option.some.inj H
    have hnb77 := NB197_198.out
    have hnc77 := NB198_197.out
    have hcz78_0 := bc_ BK197.out 0
    have hcz78_1 := bc_ BK197.out 1
    have hcz78_2 := bc_ BK197.out 2
    have hfz78_0 := blk_frozen BK197.out 0
    have hfz78_1 := blk_frozen BK197.out 1
    have hfz78_2 := blk_frozen BK197.out 2
    have hcz79_0 := bc_ BK198.out 0
    have hfz79_0 := blk_frozen BK198.out 0
    go_wp2
    go_ret
    exact ⟨by first | rfl | (simp [errW_none, errW_some] <;> rfl) | (simp [*, errW_none, errW_some] <;> rfl), by repeat (first | (with_reducible first | exact HB.out | apply below_alloc | apply pw_below_drewN | apply below_drew1 | refine below_set ?_ GE197.out | refine below_set ?_ GE198.out) | exact HB.out)⟩

end Go.Proofs.Ytcdnfkoahajhhaa.PFnExactFits
