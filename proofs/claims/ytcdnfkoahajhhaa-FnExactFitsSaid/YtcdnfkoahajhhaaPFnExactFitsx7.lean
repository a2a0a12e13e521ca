/- Contracts of Go functions, written by a program of ours over the print of the kit: each says that the call returns what the Lean function beside it computes. Conditions: as each theorem states them. -/
import Derived.Test.YtcdnfkoahajhhaaPkFnExactFits
import Derived.Test.YtcdnfkoahajhhaaPFnExactFitsx0
import Derived.Test.YtcdnfkoahajhhaaPFnExactFitsx5
import Derived.Test.YtcdnfkoahajhhaaPFnExactFitsx6
namespace Go.Proofs.Ytcdnfkoahajhhaa.PFnExactFits
open Go.RowKit Go.Proofs.YtcdnfkoahajhhaaW.PrintWords Go.Proofs.YtcdnfkoahajhhaaW.PrintLast Go.Proofs.YtcdnfkoahajhhaaW.PrintMore
attribute [local go_sem] max2_int min2_int max_two min_two max_three min_three max_four min_four   -- for this text's walks alone
set_option linter.unusedVariables false
set_option linter.unusedSimpArgs false

/-! ### spec_PathTo: function 133 -/
mutual
def spec_PathTo.j0 : Nat → Int → Bool → Int → List Int → List (S49) → Option (ByteArray)
 | 0, _, _, _, _, _ => none
 | k + 1, x1, x20, x179000, x179001, x179002 => if x20 = true then (some (⟨#[]⟩ : ByteArray)) else (spec_PathTo.l0 k x1 (([] : List ByteArray)) x179000 x179001 x179002)
def spec_PathTo.l0 : Nat → Int → List ByteArray → Int → List Int → List (S49) → Option (ByteArray)
 | 0, _, _, _, _, _ => none
 | k + 1, x1, x5, x179000, x179001, x179002 => if x1 = 0 then ((spec_JoinPath.f k x5).bind fun t184 => (some t184)) else ((spec_l14Above.f k x179000 x179001 x179002 x1).bind fun t185 => (spec_PathTo.l1 k x1 x5 t185 0 x179000 x179001 x179002))
def spec_PathTo.l1 : Nat → Int → List ByteArray → Int → Int → Int → List Int → List (S49) → Option (ByteArray)
 | 0, _, _, _, _, _, _, _ => none
 | k + 1, x1, x5, x6, x7, x179000, x179001, x179002 => if 0 ≤ x6 then (if x6 < (x179002.length : Int) then (if x7 < (((rd_T49 x179002 x6).f5).length : Int) then (if 0 ≤ x7 then (if ((rd_T59 ((rd_T49 x179002 x6).f5) x7).f0) = x1 then ((some (([(rd_T59 ((rd_T49 x179002 x6).f5) x7).f1] : List ByteArray) : List ByteArray)).bind fun y191 => (if y191.length + x5.length < 8796093022208 then (spec_PathTo.l0 k x6 (y191 ++ x5) x179000 x179001 x179002) else (none))) else (spec_PathTo.l1 k x1 x5 x6 (wrap64 (x7 + 1)) x179000 x179001 x179002)) else (none)) else (spec_PathTo.l0 k x6 x5 x179000 x179001 x179002)) else (none)) else (none)
end
def spec_PathTo.f (k : Nat) (a0_0 : Int) (l0_1 : List Int) (l0_2 : List (S49)) (a1 : Int) : Option (ByteArray) := (spec_l01In.f a1 0 (wrap64 ((l0_2.length : Int) - 1))).bind fun t179 => (if t179 = true then ((spec_DepthOf.f k a0_0 l0_1 l0_2 a1).bind fun t180 => (spec_PathTo.j0 k a1 (decide (t180 < 0)) a0_0 l0_1 l0_2)) else (spec_PathTo.j0 k a1 true a0_0 l0_1 l0_2))
theorem spec_PathTo.mono_l : ∀ k, (∀ y0 y1 y2 y3 y4, LeO (spec_PathTo.j0 k y0 y1 y2 y3 y4) (spec_PathTo.j0 (k + 1) y0 y1 y2 y3 y4)) ∧ (∀ y0 y1 y2 y3 y4, LeO (spec_PathTo.l0 k y0 y1 y2 y3 y4) (spec_PathTo.l0 (k + 1) y0 y1 y2 y3 y4)) ∧ (∀ y0 y1 y2 y3 y4 y5 y6, LeO (spec_PathTo.l1 k y0 y1 y2 y3 y4 y5 y6) (spec_PathTo.l1 (k + 1) y0 y1 y2 y3 y4 y5 y6))
 | 0 => ⟨fun _ _ _ _ _ r h => by simp [spec_PathTo.j0] at h, fun _ _ _ _ _ r h => by simp [spec_PathTo.l0] at h, fun _ _ _ _ _ _ _ r h => by simp [spec_PathTo.l1] at h⟩
 | k + 1 => by
  obtain ⟨ih0, ih1, ih2⟩ := spec_PathTo.mono_l k
  refine ⟨?_, ?_, ?_⟩
  ·intro y0 y1 y2 y3 y4
   unfold spec_PathTo.j0
   repeat' first
   | (with_reducible exact ih0 _ _ _ _ _)
   | (with_reducible exact ih1 _ _ _ _ _)
   | (with_reducible exact ih2 _ _ _ _ _ _ _)
   | (with_reducible exact spec_DepthOf.mono _ _ _ _ _)
   | (with_reducible exact spec_JoinPath.mono _ _)
   | (with_reducible exact spec_l14Above.mono _ _ _ _ _)
   | (with_reducible exact LeO.refl _)
   | (with_reducible exact LeO.none _)
   | (with_reducible refine LeO.ite ?_ ?_)
   | (with_reducible refine LeO.bind ?_ (fun _ => ?_))
   | exact ih0 _ _ _ _ _
   | exact ih1 _ _ _ _ _
   | exact ih2 _ _ _ _ _ _ _
   | exact spec_DepthOf.mono _ _ _ _ _
   | exact spec_JoinPath.mono _ _
   | exact spec_l14Above.mono _ _ _ _ _
   | exact LeO.none _
   | refine LeO.ite ?_ ?_
   | refine LeO.bind ?_ (fun _ => ?_)
  ·intro y0 y1 y2 y3 y4
   unfold spec_PathTo.l0
   repeat' first
   | (with_reducible exact ih0 _ _ _ _ _)
   | (with_reducible exact ih1 _ _ _ _ _)
   | (with_reducible exact ih2 _ _ _ _ _ _ _)
   | (with_reducible exact spec_DepthOf.mono _ _ _ _ _)
   | (with_reducible exact spec_JoinPath.mono _ _)
   | (with_reducible exact spec_l14Above.mono _ _ _ _ _)
   | (with_reducible exact LeO.refl _)
   | (with_reducible exact LeO.none _)
   | (with_reducible refine LeO.ite ?_ ?_)
   | (with_reducible refine LeO.bind ?_ (fun _ => ?_))
   | exact ih0 _ _ _ _ _
   | exact ih1 _ _ _ _ _
   | exact ih2 _ _ _ _ _ _ _
   | exact spec_DepthOf.mono _ _ _ _ _
   | exact spec_JoinPath.mono _ _
   | exact spec_l14Above.mono _ _ _ _ _
   | exact LeO.none _
   | refine LeO.ite ?_ ?_
   | refine LeO.bind ?_ (fun _ => ?_)
  ·intro y0 y1 y2 y3 y4 y5 y6
   unfold spec_PathTo.l1
   repeat' first
   | (with_reducible exact ih0 _ _ _ _ _)
   | (with_reducible exact ih1 _ _ _ _ _)
   | (with_reducible exact ih2 _ _ _ _ _ _ _)
   | (with_reducible exact spec_DepthOf.mono _ _ _ _ _)
   | (with_reducible exact spec_JoinPath.mono _ _)
   | (with_reducible exact spec_l14Above.mono _ _ _ _ _)
   | (with_reducible exact LeO.refl _)
   | (with_reducible exact LeO.none _)
   | (with_reducible refine LeO.ite ?_ ?_)
   | (with_reducible refine LeO.bind ?_ (fun _ => ?_))
   | exact ih0 _ _ _ _ _
   | exact ih1 _ _ _ _ _
   | exact ih2 _ _ _ _ _ _ _
   | exact spec_DepthOf.mono _ _ _ _ _
   | exact spec_JoinPath.mono _ _
   | exact spec_l14Above.mono _ _ _ _ _
   | exact LeO.none _
   | refine LeO.ite ?_ ?_
   | refine LeO.bind ?_ (fun _ => ?_)
theorem spec_PathTo.mono : ∀ a0 a1 a2 a3 k, LeO (spec_PathTo.f k a0 a1 a2 a3) (spec_PathTo.f (k + 1) a0 a1 a2 a3) := by
 intro a0 a1 a2 a3 k
 obtain ⟨ih0, ih1, ih2⟩ := spec_PathTo.mono_l k
 unfold spec_PathTo.f
 repeat' first
   | (with_reducible exact ih0 _ _ _ _ _)
   | (with_reducible exact ih1 _ _ _ _ _)
   | (with_reducible exact ih2 _ _ _ _ _ _ _)
   | (with_reducible exact spec_DepthOf.mono _ _ _ _ _)
   | (with_reducible exact spec_JoinPath.mono _ _)
   | (with_reducible exact spec_l14Above.mono _ _ _ _ _)
   | (with_reducible exact LeO.refl _)
   | (with_reducible exact LeO.none _)
   | (with_reducible refine LeO.ite ?_ ?_)
   | (with_reducible refine LeO.bind ?_ (fun _ => ?_))
   | exact ih0 _ _ _ _ _
   | exact ih1 _ _ _ _ _
   | exact ih2 _ _ _ _ _ _ _
   | exact spec_DepthOf.mono _ _ _ _ _
   | exact spec_JoinPath.mono _ _
   | exact spec_l14Above.mono _ _ _ _ _
   | exact LeO.none _
   | refine LeO.ite ?_ ?_
   | refine LeO.bind ?_ (fun _ => ?_)
set_option maxHeartbeats 8000000 in
set_option maxRecDepth 100000 in
theorem spec_PathTo.calls (k : Nat) (a0_0 : Int) (A0_1 : Option Addr) (c0_1 : Nat) (l0_1 : List Int) (A0_2 : Option Addr) (c0_2 : Nat) (l0_2 : List (S49)) (a1 : Int) (r : ByteArray) (w : World) (hr0_1 : Kd.C (Kd.int .i64) w A0_1 l0_1.length l0_1) (hc0_1 : l0_1.length ≤ c0_1) (hr0_2 : Kd.C k49 w A0_2 l0_2.length l0_2) (hc0_2 : l0_2.length ≤ c0_2) (h : spec_PathTo.f k a0_0 l0_1 l0_2 a1 = some r) :
  Calls Try.prog 133 #[.agg #[.int .i64 a0_0, .slice A0_1 l0_1.length c0_1, .slice A0_2 l0_2.length c0_2], .int .i64 a1] w fun e w' => e = .returned (.string r) ∧ Below w.heap.size w w' := by
 have hu69 := Try.underlying69
 have HR0_1 := Aside0.mk hr0_1
 have HC0_1 := Aside0.mk hc0_1
 clear hr0_1 hc0_1
 have HR0_2 := Aside0.mk hr0_2
 have HC0_2 := Aside0.mk hc0_2
 clear hr0_2 hc0_2
 have HB := Aside0.mk (Below.refl w.heap.size w)
 have H : ((spec_l01In.f a1 0 (wrap64 ((l0_2.length : Int) - 1))).bind fun t179 => (if t179 = true then ((spec_DepthOf.f k a0_0 l0_1 l0_2 a1).bind fun t180 => (spec_PathTo.j0 k a1 (decide (t180 < 0)) a0_0 l0_1 l0_2)) else (spec_PathTo.j0 k a1 true a0_0 l0_1 l0_2))) = some r := h
 clear h
 have HC3 := Aside0.mk H
 clear H
 go_enter Try.func133, Try.ntmps133
 go_upto_region 1 with (first | ((with_reducible refine gate_dst (N := 2) rfl ?_); refine box_event ?hg (N := 2) ?hd (cs := #[.int .i64 a0_0, .slice A0_1 l0_1.length c0_1, .slice A0_2 l0_2.length c0_2]) (t := 69) ?hr ?_; (case hd => rfl); (case hg => rfl); (case hr => first | (go_simp; done) | (go_simp; rfl)); intro gb178 hg w4 hbox hb; have n0_ := Aside0.mk (below_step tq_0 hb); have n1_ := Aside0.mk (hbox); have n2_ := Aside0.mk (gb_ hg tq_0); have n3_ := Aside0.mk (gb_ hg tq_0); clear HB; have HB := n0_; have BK178 := n1_; have GW178 := n2_; have GE178 := n3_; clear n0_ n1_ n2_ n3_; clear hb hbox hg))
 (try simp only [Act.put, List.setIfInBounds_toArray, List.set_cons_zero, List.set_cons_succ])
 go_cut [20] (fun v20 wc => ∃ (kq : Nat) (x20_2 : Bool), v20 = .bool x20_2 ∧ Aside0 (spec_PathTo.j0 kq a1 x20_2 a0_0 l0_1 l0_2 = some r) ∧ Aside0 (kq ≤ k) ∧ Aside0 (wc.heap[gb178]? = some (.cells #[.int .i64 a0_0, (.slice A0_1 l0_1.length c0_1), (.slice A0_2 l0_2.length c0_2)] 69 (0, 0))) ∧ Aside0 (Below w.heap.size w wc))
 case first =>
  have H := HC3.out
  clear HC3
  replace H := Option.bind_eq_some_iff.mp H
  obtain ⟨t179, A50, H⟩ := H
  replace H : (if t179 = true then ((spec_DepthOf.f k a0_0 l0_1 l0_2 a1).bind fun t180 => (spec_PathTo.j0 k a1 (decide (t180 < 0)) a0_0 l0_1 l0_2)) else (spec_PathTo.j0 k a1 true a0_0 l0_1 l0_2)) = some r := H
  have A5 := Aside0.mk A50
  clear A50
  by_cases c6 : t179 = true
  ·subst c6
   have H1 : ((spec_DepthOf.f k a0_0 l0_1 l0_2 a1).bind fun t180 => (spec_PathTo.j0 k a1 (decide (t180 < 0)) a0_0 l0_1 l0_2)) = some r := by rw [if_pos rfl] at H; exact H
   clear H
   have H := H1
   clear H1
   replace H := Option.bind_eq_some_iff.mp H
   obtain ⟨t180, A70, H⟩ := H
   replace H : (spec_PathTo.j0 k a1 (decide (t180 < 0)) a0_0 l0_1 l0_2) = some r := H
   have A7 := Aside0.mk A70
   clear A70
   have H' := Aside0.mk H
   clear H
   have hcz8_0 := bc_ BK178.out 0
   have hcz8_1 := bc_ BK178.out 1
   have hcz8_2 := bc_ BK178.out 2
   have hfz8_0 := blk_frozen BK178.out 0
   have hfz8_1 := blk_frozen BK178.out 1
   have hfz8_2 := blk_frozen BK178.out 2
   go_wp2_with (first | ((with_reducible refine gate_callee (f := 141) rfl ?_); refine goesL_ (some 13) rfl rfl Try.func141 (by kernel_rfl) rfl #[.int .i64 a1, .int .i64 0, .int .i64 (wrap64 ((l0_2.length : Int) - 1))] rfl tq_1 ?_; (with_reducible refine (spec_l01In.calls a1 0 (wrap64 ((l0_2.length : Int) - 1)) true _ A5.out).mono ?_); rintro e w' ⟨rfl, ⟨nd, rfl⟩⟩; refine ⟨_, rfl, ?_⟩) | (go_at_call 163; (with_reducible refine (spec_DepthOf.calls k a0_0 _ _ l0_1 _ _ l0_2 a1 t180 _ ?side1 ?side2 ?side3 ?side4 A7.out).mono ?_); (case side1 => repeat (first | exact (Kd.C_below HR0_1.out tq_38) | (with_reducible refine Kd.C_alloc ?_ _) | (with_reducible refine Kd.C_drewN ?_ _) | (with_reducible refine Kd.C_drew ?_))); (case side2 => exact HC0_1.out); (case side3 => repeat (first | exact (Kd.C_below HR0_2.out tq_38) | (with_reducible refine Kd.C_alloc ?_ _) | (with_reducible refine Kd.C_drewN ?_ _) | (with_reducible refine Kd.C_drew ?_))); (case side4 => exact HC0_2.out); rintro e w9 ⟨rfl, hb⟩; have n0_ := Aside0.mk (blk_below tq_77 hb); have n1_ := Aside0.mk (below_step tq_38 hb); clear BK178 HB; have BK178 := n0_; have HB := n1_; clear n0_ n1_; (try clear hb); (try clear hb2); (try clear hk); (try clear hi)))
   go_meet
   case rel => exact ⟨_, (decide (t180 < 0)), tq_11, H', ⟨by first | omega | exact Nat.le_refl _⟩, ⟨by (with_reducible repeat (first | refine blk_drewN ?_ _ | refine blk_drew ?_ | refine blk_alloc ?_ _)); exact BK178.out⟩, ⟨by repeat (first | (with_reducible first | exact HB.out | apply below_alloc | apply pw_below_drewN | apply below_drew1 | refine below_set ?_ GE178.out) | exact HB.out)⟩⟩
  ·replace c6 := Bool.eq_false_iff.mpr c6
   subst c6
   have H1 : (spec_PathTo.j0 k a1 true a0_0 l0_1 l0_2) = some r := by rw [if_neg (show ¬ (false = true) by decide)] at H; exact H
   clear H
   have H := H1
   clear H1
   have H' := Aside0.mk H
   clear H
   have hcz10_0 := bc_ BK178.out 0
   have hcz10_1 := bc_ BK178.out 1
   have hcz10_2 := bc_ BK178.out 2
   have hfz10_0 := blk_frozen BK178.out 0
   have hfz10_1 := blk_frozen BK178.out 1
   have hfz10_2 := blk_frozen BK178.out 2
   go_wp2_with (first | ((with_reducible refine gate_callee (f := 141) rfl ?_); refine goesL_ (some 13) rfl rfl Try.func141 (by kernel_rfl) rfl #[.int .i64 a1, .int .i64 0, .int .i64 (wrap64 ((l0_2.length : Int) - 1))] rfl tq_1 ?_; (with_reducible refine (spec_l01In.calls a1 0 (wrap64 ((l0_2.length : Int) - 1)) false _ A5.out).mono ?_); rintro e w' ⟨rfl, ⟨nd, rfl⟩⟩; refine ⟨_, rfl, ?_⟩))
   go_meet
   case rel => exact ⟨_, (true), tq_11, H', ⟨by first | omega | exact Nat.le_refl _⟩, ⟨by (with_reducible repeat (first | refine blk_drewN ?_ _ | refine blk_drew ?_ | refine blk_alloc ?_ _)); exact BK178.out⟩, ⟨by repeat (first | (with_reducible first | exact HB.out | apply below_alloc | apply pw_below_drewN | apply below_drew1 | refine below_set ?_ GE178.out) | exact HB.out)⟩⟩
 case rest =>
  clear HC3
  try clear c1
  try clear p2
  try clear c6
  try clear p6
  try clear hcz10_0
  try clear hcz10_1
  try clear hcz10_2
  try clear hcz8_0
  try clear hcz8_1
  try clear hcz8_2
  try clear hfz10_0
  try clear hfz10_1
  try clear hfz10_2
  try clear hfz8_0
  try clear hfz8_1
  try clear hfz8_2
  obtain ⟨kq, x20_2, rfl, HA, HJ2, BK178, HB⟩ := hcut
  cases kq with
  | zero => exact absurd HA.out (by simp [spec_PathTo.j0])
  | succ kj2 =>
   have H := HA.out
   clear HA
   simp only [spec_PathTo.j0] at H
   by_cases c11 : x20_2 = true
   ·subst c11
    have H1 : (some (⟨#[]⟩ : ByteArray)) = some r := by rw [if_pos rfl] at H; exact H
    clear H
    have H := H1
    clear H1
    obtain rfl := Option.some.inj H
    go_wp2
    go_ret
    exact ⟨by first | rfl | (simp [errW_none, errW_some] <;> rfl) | (simp [*, errW_none, errW_some] <;> rfl), by repeat (first | (with_reducible first | exact HB.out | apply below_alloc | apply pw_below_drewN | apply below_drew1 | refine below_set ?_ GE178.out) | exact HB.out)⟩
   ·replace c11 := Bool.eq_false_iff.mpr c11
    subst c11
    have H1 : (spec_PathTo.l0 kj2 a1 (([] : List ByteArray)) a0_0 l0_1 l0_2) = some r := by rw [if_neg (show ¬ (false = true) by decide)] at H; exact H
    clear H
    have H := H1
    clear H1
    obtain ⟨y181, hy181⟩ : ∃ y_ : List ByteArray, y_ = (([] : List ByteArray)) := ⟨_, rfl⟩
    replace H : (spec_PathTo.l0 kj2 a1 y181 a0_0 l0_1 l0_2) = some r := by first | (rw [hy181]; with_reducible exact H) | (have H2_ := (Option.bind_some _ _).symm.trans H; rw [hy181]; with_reducible exact H2_) | (have H2_ := (Option.bind_some _ _).symm.trans H; with_reducible exact H2_) | with_reducible exact H | (rw [hy181]; exact H) | exact H
    have Ny181 := Aside0.mk hy181
    clear hy181
    have H' := Aside0.mk H
    clear H
    go_wp2_with (first | ((with_reducible refine gate_dst (N := 21) rfl ?_); refine Kd.R_lit Kd.string _ 9 ?hg (N := 21) ?hd (xs := ([] : List ByteArray)) (inner := []) (ok := fun _ => True) (okp := fun _ => True) ?hr ?hp (fun _ hk => hk) trivial (Below.refl _ _) (Nat.le_refl _) (by simp) ?_; (case hd => rfl); (case hg => rfl); (case hr => first | (go_simp; done) | (go_simp; rfl)); (case hp => exact (Reps.none _ _)); intro v182 w12 ho13 hb hg_ hnew_; clear hg_ hnew_; (first | rw [← Ny181.out] at ho13 | (simp only [Int.reduceToNat] at ho13; rw [← Ny181.out] at ho13)); have n0_ := Aside0.mk (Kd.R_lower ho13 (below_size tq_38)); have n1_ := Aside0.mk (blk_below tq_77 hb); have n2_ := Aside0.mk (below_step tq_38 hb); clear BK178 HB; have HO183 := n0_; have BK178 := n1_; have HB := n2_; clear n0_ n1_ n2_; clear hb ho13))
    go_loopg [1, 5] kj2 (fun kq v1 v5 w' => ∃ (x1_2 : Int) (x5_2 : List ByteArray), v1 = .int .i64 x1_2 ∧ Aside0 (spec_PathTo.l0 kq x1_2 x5_2 a0_0 l0_1 l0_2 = some r) ∧ Aside0 (kq ≤ kj2) ∧ Aside0 (Kd.R Kd.string 9 w' w.heap.size (fun _ => True) v5 x5_2) ∧ Aside0 (w'.heap[gb178]? = some (.cells #[.int .i64 a0_0, (.slice A0_1 l0_1.length c0_1), (.slice A0_2 l0_2.length c0_2)] 69 (0, 0))) ∧ Aside0 (Below w.heap.size w w'))
    case atStart => exact ⟨(a1), (y181), tq_11, H', ⟨Nat.le_refl _⟩, ⟨by (with_reducible repeat (first | apply Kd.R_alloc | apply Kd.R_drewN | apply Kd.R_drew)); exact HO183.out⟩, ⟨by (with_reducible repeat (first | refine blk_drewN ?_ _ | refine blk_drew ?_ | refine blk_alloc ?_ _)); exact BK178.out⟩, ⟨by repeat (first | (with_reducible first | exact HB.out | apply below_alloc | apply pw_below_drewN | apply below_drew1 | refine below_set ?_ GE178.out) | exact HB.out)⟩⟩
    case round =>
     clear H'
     try clear c1
     try clear p2
     try clear c6
     try clear p6
     try clear c11
     try clear c13
     try clear hcz10_0
     try clear hcz10_1
     try clear hcz10_2
     try clear hcz8_0
     try clear hcz8_1
     try clear hcz8_2
     try clear hfz10_0
     try clear hfz10_1
     try clear hfz10_2
     try clear hfz8_0
     try clear hfz8_1
     try clear hfz8_2
     try clear p2
     try clear p6
     obtain ⟨x1_2, x5_2, rfl, HA, HK2, HO_5, BK178, HB⟩ := hrel
     cases gk with
     | zero => exact absurd HA.out (by simp [spec_PathTo.l0])
     | succ k2 =>
      have H := HA.out
      clear HA
      simp only [spec_PathTo.l0] at H
      by_cases c14 : x1_2 = 0
      ·rw [if_pos c14] at H
       have c14b0 : (x1_2 == 0) = true := beq_iff_eq.mpr c14
       have c14b1 : (x1_2 != 0) = false := bne_eq_false_iff_eq.mpr c14
       clear c14
       replace H := Option.bind_eq_some_iff.mp H
       obtain ⟨t184, A150, H⟩ := H
       replace H : (some t184) = some r := H
       have A15 := Aside0.mk A150
       clear A150
       obtain rfl := Option.some.inj H
       obtain ⟨Ao16, co16, eo16⟩ := Kd.R_slice HO_5.out
       subst eo16
       go_wp2_with (first | ((with_reducible refine gate_callee (f := 188) rfl ?_); refine goesL_ (some 65) rfl rfl Try.func188 (by kernel_rfl) rfl #[.slice Ao16 x5_2.length co16] rfl tq_1 ?_; (with_reducible refine (spec_JoinPath.calls k2 _ _ x5_2 t184 _ ?side1 ?side2 A15.out).mono ?_); (case side1 => exact tq_146); (case side2 => exact (Kd.R_reads' HO_5.out).2.1); rintro e w' ⟨rfl, ⟨nd, rfl⟩⟩; refine ⟨_, rfl, ?_⟩))
       go_ret
       exact ⟨by first | rfl | (simp [errW_none, errW_some] <;> rfl) | (simp [*, errW_none, errW_some] <;> rfl), by repeat (first | (with_reducible first | exact HB.out | apply below_alloc | apply pw_below_drewN | apply below_drew1 | refine below_set ?_ GE178.out) | exact HB.out)⟩
      ·rw [if_neg c14] at H
       have c14b0 : (x1_2 == 0) = false := beq_eq_false_iff_ne.mpr c14
       have c14b1 : (x1_2 != 0) = true := bne_iff_ne.mpr c14
       replace H := Option.bind_eq_some_iff.mp H
       obtain ⟨t185, A170, H⟩ := H
       replace H : (spec_PathTo.l1 k2 x1_2 x5_2 t185 0 a0_0 l0_1 l0_2) = some r := H
       have A17 := Aside0.mk A170
       clear A170
       have H' := Aside0.mk H
       clear H
       have hcz18_0 := bc_ BK178.out 0
       have hcz18_1 := bc_ BK178.out 1
       have hcz18_2 := bc_ BK178.out 2
       have hfz18_0 := blk_frozen BK178.out 0
       have hfz18_1 := blk_frozen BK178.out 1
       have hfz18_2 := blk_frozen BK178.out 2
       go_wp2_with (first | ((with_reducible refine gate_callee (f := 187) rfl ?_); refine goesL_ (some 26) rfl rfl Try.func187 (by kernel_rfl) rfl #[.agg #[.int .i64 a0_0, .slice A0_1 l0_1.length c0_1, .slice A0_2 l0_2.length c0_2], .int .i64 x1_2] rfl tq_1 ?_; (with_reducible refine (spec_l14Above.calls k2 a0_0 _ _ l0_1 _ _ l0_2 x1_2 t185 _ ?side1 ?side2 ?side3 ?side4 A17.out).mono ?_); (case side1 => exact tq_6); (case side2 => exact HC0_1.out); (case side3 => exact tq_7); (case side4 => exact HC0_2.out); rintro e w19 ⟨rfl, hb⟩; refine ⟨_, rfl, ?_⟩; have n0_ := Aside0.mk (Kd.R_below tq_84 hb); have n1_ := Aside0.mk (blk_below tq_77 hb); have n2_ := Aside0.mk (below_step tq_38 hb); clear HO_5 BK178 HB; have HO_5 := n0_; have BK178 := n1_; have HB := n2_; clear n0_ n1_ n2_; (try clear hb); (try clear hb2); (try clear hk); (try clear hi)))
       go_loopg [5, 7] k2 (fun kq v5 v7 w' => ∃ (x5_3 : List ByteArray) (x7_3 : Int), v7 = .int .i64 x7_3 ∧ Aside0 (spec_PathTo.l1 kq x1_2 x5_3 t185 x7_3 a0_0 l0_1 l0_2 = some r) ∧ Aside0 (kq ≤ k2) ∧ Aside0 (Kd.R Kd.string 9 w' w.heap.size (fun _ => True) v5 x5_3) ∧ Aside0 (w'.heap[gb178]? = some (.cells #[.int .i64 a0_0, (.slice A0_1 l0_1.length c0_1), (.slice A0_2 l0_2.length c0_2)] 69 (0, 0))) ∧ Aside0 (Below w.heap.size w w'))
       case atStart => exact ⟨(x5_2), (0), tq_11, H', ⟨Nat.le_refl _⟩, ⟨by (with_reducible repeat (first | apply Kd.R_alloc | apply Kd.R_drewN | apply Kd.R_drew)); exact HO_5.out⟩, ⟨by (with_reducible repeat (first | refine blk_drewN ?_ _ | refine blk_drew ?_ | refine blk_alloc ?_ _)); exact BK178.out⟩, ⟨by repeat (first | (with_reducible first | exact HB.out | apply below_alloc | apply pw_below_drewN | apply below_drew1 | refine below_set ?_ GE178.out) | exact HB.out)⟩⟩
       case round =>
        clear H'
        try clear c1
        try clear p2
        try clear c6
        try clear p6
        try clear c11
        try clear c13
        try clear c14
        try clear c14b0
        try clear c14b1
        try clear c18
        try clear hcz10_0
        try clear hcz10_1
        try clear hcz10_2
        try clear hcz18_0
        try clear hcz18_1
        try clear hcz18_2
        try clear hcz8_0
        try clear hcz8_1
        try clear hcz8_2
        try clear hfz10_0
        try clear hfz10_1
        try clear hfz10_2
        try clear hfz18_0
        try clear hfz18_1
        try clear hfz18_2
        try clear hfz8_0
        try clear hfz8_1
        try clear hfz8_2
        try clear p2
        try clear p6
        obtain ⟨x5_3, x7_3, rfl, HA, HK3, HO_5, BK178, HB⟩ := hrel
        cases gk with
        | zero => exact absurd HA.out (by simp [spec_PathTo.l1])
        | succ k3 =>
         have H := HA.out
         clear HA
         simp only [spec_PathTo.l1] at H
         by_cases c20 : 0 ≤ t185
         ·rw [if_pos c20] at H
          have c20b0 : decide (0 ≤ t185) = true := decide_eq_true c20
          clear c20
          by_cases c21 : t185 < (l0_2.length : Int)
          ·rw [if_pos c21] at H
           have c21b0 : decide (t185 < (l0_2.length : Int)) = true := decide_eq_true c21
           clear c21
           by_cases c22 : x7_3 < (((rd_T49 l0_2 t185).f5).length : Int)
           ·rw [if_pos c22] at H
            have c22b0 : decide (x7_3 < (((rd_T49 l0_2 t185).f5).length : Int)) = true := decide_eq_true c22
            clear c22
            by_cases c23 : 0 ≤ x7_3
            ·rw [if_pos c23] at H
             have c23b0 : decide (0 ≤ x7_3) = true := decide_eq_true c23
             clear c23
             by_cases c24 : ((rd_T59 ((rd_T49 l0_2 t185).f5) x7_3).f0) = x1_2
             ·rw [if_pos c24] at H
              have c24b0 : (((rd_T59 ((rd_T49 l0_2 t185).f5) x7_3).f0) == x1_2) = true := beq_iff_eq.mpr c24
              have c24b1 : (((rd_T59 ((rd_T49 l0_2 t185).f5) x7_3).f0) != x1_2) = false := bne_eq_false_iff_eq.mpr c24
              clear c24
              obtain ⟨y191, hy191⟩ : ∃ y_ : List ByteArray, y_ = (([(rd_T59 ((rd_T49 l0_2 t185).f5) x7_3).f1] : List ByteArray)) := ⟨_, rfl⟩
              replace H : (if y191.length + x5_3.length < 8796093022208 then (spec_PathTo.l0 k3 t185 (y191 ++ x5_3) a0_0 l0_1 l0_2) else (none)) = some r := by first | (rw [hy191]; with_reducible exact H) | (have H2_ := (Option.bind_some _ _).symm.trans H; rw [hy191]; with_reducible exact H2_) | (have H2_ := (Option.bind_some _ _).symm.trans H; with_reducible exact H2_) | with_reducible exact H | (rw [hy191]; exact H) | exact H
              have Ny191 := Aside0.mk hy191
              clear hy191
              by_cases c25 : y191.length + x5_3.length < 8796093022208
              ·rw [if_pos c25] at H
               have LMc25 := Aside0.mk c25
               clear c25
               obtain ⟨y194, hy194⟩ : ∃ y_ : List ByteArray, y_ = (y191 ++ x5_3) := ⟨_, rfl⟩
               replace H : (spec_PathTo.l0 k3 t185 y194 a0_0 l0_1 l0_2) = some r := by first | (rw [hy194]; with_reducible exact H) | (have H2_ := (Option.bind_some _ _).symm.trans H; rw [hy194]; with_reducible exact H2_) | (have H2_ := (Option.bind_some _ _).symm.trans H; with_reducible exact H2_) | with_reducible exact H | (rw [hy194]; exact H) | exact H
               have Ny194 := Aside0.mk hy194
               clear hy194
               have H' := Aside0.mk H
               clear H
               have hcz26_0 := bc_ BK178.out 0
               have hcz26_1 := bc_ BK178.out 1
               have hcz26_2 := bc_ BK178.out 2
               have hfz26_0 := blk_frozen BK178.out 0
               have hfz26_1 := blk_frozen BK178.out 1
               have hfz26_2 := blk_frozen BK178.out 2
               have p186 : 0 ≤ (t185 : Int) := of_decide_eq_true tq_4
               have q186 : t185 < (l0_2.length : Int) := of_decide_eq_true tq_4
               obtain ⟨ad186, A186_4, c186_4, A186_5, c186_5, e186, hx186_0, hx186_1, hx186_2, hx186_3, hx186_4, hx186_5, hl186_4, hi186_4, hl186_5, hi186_5⟩ := at_T49 HR0_2.out t185 p186 q186
               cases e186
               replace hx186_0 := hx_ HB.out hx186_0
               replace hx186_1 := hx_ HB.out hx186_1
               replace hx186_2 := hx_ HB.out hx186_2
               replace hx186_3 := hx_ HB.out hx186_3
               replace hx186_4 := hx_ HB.out hx186_4
               replace hx186_5 := hx_ HB.out hx186_5
               have HR186_4 := Aside0.mk hi186_4
               have HC186_4 := Aside0.mk hl186_4
               clear hi186_4 hl186_4
               have HR186_5 := Aside0.mk hi186_5
               have HC186_5 := Aside0.mk hl186_5
               clear hi186_5 hl186_5
               replace p186 := eq_true p186
               replace q186 := eq_true q186
               have p187 : 0 ≤ (t185 : Int) := of_decide_eq_true tq_4
               have q187 : t185 < (l0_2.length : Int) := of_decide_eq_true tq_4
               obtain ⟨ad187, A187_4, c187_4, A187_5, c187_5, e187, hx187_0, hx187_1, hx187_2, hx187_3, hx187_4, hx187_5, hl187_4, hi187_4, hl187_5, hi187_5⟩ := at_T49 HR0_2.out t185 p187 q187
               obtain rfl : ad186 = ad187 := (by injection e187)
               replace hx187_0 := hx_ HB.out hx187_0
               replace hx187_1 := hx_ HB.out hx187_1
               replace hx187_2 := hx_ HB.out hx187_2
               replace hx187_3 := hx_ HB.out hx187_3
               replace hx187_4 := hx_ HB.out hx187_4
               replace hx187_5 := hx_ HB.out hx187_5
               have HR187_4 := Aside0.mk hi187_4
               have HC187_4 := Aside0.mk hl187_4
               clear hi187_4 hl187_4
               have HR187_5 := Aside0.mk hi187_5
               have HC187_5 := Aside0.mk hl187_5
               clear hi187_5 hl187_5
               replace p187 := eq_true p187
               replace q187 := eq_true q187
               have ea_ := Option.some.inj (hx186_4.symm.trans hx187_4)
               injection ea_ with ea_ en_ ec_
               subst ea_
               subst ec_
               clear en_
               have ea_ := Option.some.inj (hx186_5.symm.trans hx187_5)
               injection ea_ with ea_ en_ ec_
               subst ea_
               subst ec_
               clear en_
               have p188 : 0 ≤ (x7_3 : Int) := of_decide_eq_true tq_4
               have q188 : x7_3 < (((rd_T49 l0_2 t185).f5).length : Int) := of_decide_eq_true tq_4
               obtain ⟨ad188, e188, hx188_0, hx188_1⟩ := at_T59 HR187_5.out x7_3 p188 q188
               cases e188
               replace hx188_0 := hx_ HB.out hx188_0
               replace hx188_1 := hx_ HB.out hx188_1
               replace p188 := eq_true p188
               replace q188 := eq_true q188
               have p189 : 0 ≤ (t185 : Int) := of_decide_eq_true tq_4
               have q189 : t185 < (l0_2.length : Int) := of_decide_eq_true tq_4
               obtain ⟨ad189, A189_4, c189_4, A189_5, c189_5, e189, hx189_0, hx189_1, hx189_2, hx189_3, hx189_4, hx189_5, hl189_4, hi189_4, hl189_5, hi189_5⟩ := at_T49 HR0_2.out t185 p189 q189
               obtain rfl : ad186 = ad189 := (by injection e189)
               replace hx189_0 := hx_ HB.out hx189_0
               replace hx189_1 := hx_ HB.out hx189_1
               replace hx189_2 := hx_ HB.out hx189_2
               replace hx189_3 := hx_ HB.out hx189_3
               replace hx189_4 := hx_ HB.out hx189_4
               replace hx189_5 := hx_ HB.out hx189_5
               have HR189_4 := Aside0.mk hi189_4
               have HC189_4 := Aside0.mk hl189_4
               clear hi189_4 hl189_4
               have HR189_5 := Aside0.mk hi189_5
               have HC189_5 := Aside0.mk hl189_5
               clear hi189_5 hl189_5
               replace p189 := eq_true p189
               replace q189 := eq_true q189
               have ea_ := Option.some.inj (hx186_4.symm.trans hx189_4)
               injection ea_ with ea_ en_ ec_
               subst ea_
               subst ec_
               clear en_
               have ea_ := Option.some.inj (hx186_5.symm.trans hx189_5)
               injection ea_ with ea_ en_ ec_
               subst ea_
               subst ec_
               clear en_
               have p190 : 0 ≤ (x7_3 : Int) := of_decide_eq_true tq_4
               have q190 : x7_3 < (((rd_T49 l0_2 t185).f5).length : Int) := of_decide_eq_true tq_4
               obtain ⟨ad190, e190, hx190_0, hx190_1⟩ := at_T59 HR189_5.out x7_3 p190 q190
               cases e190
               replace hx190_0 := hx_ HB.out hx190_0
               replace hx190_1 := hx_ HB.out hx190_1
               replace p190 := eq_true p190
               replace q190 := eq_true q190
               go_wp2_with (first | ((with_reducible refine gate_dst (N := 60) rfl ?_); refine Kd.R_lit Kd.string _ 9 ?hg (N := 60) ?hd (xs := ([(rd_T59 ((rd_T49 l0_2 t185).f5) x7_3).f1] : List ByteArray)) (inner := [.string ((rd_T59 ((rd_T49 l0_2 t185).f5) x7_3).f1)]) (ok := fun _ => True) (okp := fun _ => True) ?hr ?hp (fun _ hk => hk) trivial (Below.refl _ _) (Nat.le_refl _) (by simp) ?_; (case hd => rfl); (case hg => rfl); (case hr => first | (go_simp; done) | (go_simp; rfl)); (case hp => exact (Reps.one (show Kd.M Kd.string _ _ _ ((rd_T59 ((rd_T49 l0_2 t185).f5) x7_3).f1) [.string ((rd_T59 ((rd_T49 l0_2 t185).f5) x7_3).f1)] from rfl) (Reps.none _ _))); intro v192 w27 ho28 hb hg_ hnew_; clear hg_ hnew_; (first | rw [← Ny191.out] at ho28 | (simp only [Int.reduceToNat] at ho28; rw [← Ny191.out] at ho28)); have n0_ := Aside0.mk (Kd.R_elder' tq_84 (Kd.R_base ho28) hb); have n1_ := Aside0.mk (Kd.R_lower (Kd.R_new' ho28 (Kd.R_lt tq_84)) (below_size tq_38)); have n2_ := Aside0.mk (blk_below tq_77 hb); have n3_ := Aside0.mk (below_step tq_38 hb); clear HO_5 BK178 HB; have HO_5 := n0_; have HO193 := n1_; have BK178 := n2_; have HB := n3_; clear n0_ n1_ n2_ n3_; clear hb ho28; obtain ⟨Ao30, co30, eo30⟩ := Kd.R_slice HO_5.out; subst eo30) | ((with_reducible refine gate_builtin (b := .append) (xs := #[.tmp 60, .tmp 61]) rfl ?_); at_builtin; refine Kd.R_append_rows Kd.string (w0 := w) w.heap.size rfl (.tmp 60) (.tmp 61) 96 9 (.string ⟨#[]⟩) 16 rfl Try.underlying96 info9 rfl (by decide) (by omega) v192 y191 x5_3 _ _ _ (fun k_ => some k_ ≠ (.slice Ao30 x5_3.length co30 : Value).ownBlock) (fun _ => False) rfl rfl ?aO ?aR (fun _ _ h => h) (fun _ h => h.elim) ?aF ?aB ?aS ?aL ?_; (case aR => exact tq_146); (case aB => exact tq_38); (case aF => exact (fun k_ hk => Kd.fresh' (Kd.R_lt tq_84) k_ hk)); (case aO => exact (by (with_reducible repeat (first | apply Kd.R_alloc | apply Kd.R_drewN | apply Kd.R_drew)); exact Kd.R_mono HO193.out (fun _ hk => hk.2))); (case aS => exact (below_size tq_38)); (case aL => have := LMc25.out; omega); intro v195 w29 ho hb hg hat; rw [← Ny194.out] at ho; have n0_ := Aside0.mk (Kd.R_after (ok := (fun _ => True)) tq_84 hg hat); have n1_ := Aside0.mk (blk_grown (g := gb178) (o := .cells #[.int .i64 a0_0, .slice A0_1 l0_1.length c0_1, .slice (some ad186) l0_2.length c0_2] 69 (0, 0)) tq_77 hg (Kd.R_ne HO193.out BK178.out (by decide))); have n2_ := Aside0.mk (hb); have n3_ := Aside0.mk (ho); clear HO_5 BK178 HB HO193; have HO_5 := n0_; have BK178 := n1_; have HB := n2_; have HO196 := n3_; clear n0_ n1_ n2_ n3_; clear ho hb hg hat))
               go_roundg k3
               case measure => have := HJ2.out; have := HK2.out; have := HK3.out; omega
               case rel => exact ⟨(t185), (y194), tq_11, H', ⟨by have := HJ2.out; have := HK2.out; have := HK3.out; omega⟩, ⟨by (with_reducible repeat (first | apply Kd.R_alloc | apply Kd.R_drewN | apply Kd.R_drew)); exact Kd.R_mono HO196.out (fun _ hk => trivial)⟩, ⟨by (with_reducible repeat (first | refine blk_drewN ?_ _ | refine blk_drew ?_ | refine blk_alloc ?_ _)); exact BK178.out⟩, ⟨by repeat (first | (with_reducible first | exact HB.out | apply below_alloc | apply pw_below_drewN | apply below_drew1 | refine below_set ?_ GE178.out) | exact HB.out)⟩⟩
              ·rw [if_neg c25] at H
               exact absurd H (by simp)
             ·rw [if_neg c24] at H
              have c24b0 : (((rd_T59 ((rd_T49 l0_2 t185).f5) x7_3).f0) == x1_2) = false := beq_eq_false_iff_ne.mpr c24
              have c24b1 : (((rd_T59 ((rd_T49 l0_2 t185).f5) x7_3).f0) != x1_2) = true := bne_iff_ne.mpr c24
              have H' := Aside0.mk H
              clear H
              have hcz31_0 := bc_ BK178.out 0
              have hcz31_1 := bc_ BK178.out 1
              have hcz31_2 := bc_ BK178.out 2
              have hfz31_0 := blk_frozen BK178.out 0
              have hfz31_1 := blk_frozen BK178.out 1
              have hfz31_2 := blk_frozen BK178.out 2
              have p186 : 0 ≤ (t185 : Int) := of_decide_eq_true tq_4
              have q186 : t185 < (l0_2.length : Int) := of_decide_eq_true tq_4
              obtain ⟨ad186, A186_4, c186_4, A186_5, c186_5, e186, hx186_0, hx186_1, hx186_2, hx186_3, hx186_4, hx186_5, hl186_4, hi186_4, hl186_5, hi186_5⟩ := at_T49 HR0_2.out t185 p186 q186
              cases e186
              replace hx186_0 := hx_ HB.out hx186_0
              replace hx186_1 := hx_ HB.out hx186_1
              replace hx186_2 := hx_ HB.out hx186_2
              replace hx186_3 := hx_ HB.out hx186_3
              replace hx186_4 := hx_ HB.out hx186_4
              replace hx186_5 := hx_ HB.out hx186_5
              have HR186_4 := Aside0.mk hi186_4
              have HC186_4 := Aside0.mk hl186_4
              clear hi186_4 hl186_4
              have HR186_5 := Aside0.mk hi186_5
              have HC186_5 := Aside0.mk hl186_5
              clear hi186_5 hl186_5
              replace p186 := eq_true p186
              replace q186 := eq_true q186
              have p187 : 0 ≤ (t185 : Int) := of_decide_eq_true tq_4
              have q187 : t185 < (l0_2.length : Int) := of_decide_eq_true tq_4
              obtain ⟨ad187, A187_4, c187_4, A187_5, c187_5, e187, hx187_0, hx187_1, hx187_2, hx187_3, hx187_4, hx187_5, hl187_4, hi187_4, hl187_5, hi187_5⟩ := at_T49 HR0_2.out t185 p187 q187
              obtain rfl : ad186 = ad187 := (by injection e187)
              replace hx187_0 := hx_ HB.out hx187_0
              replace hx187_1 := hx_ HB.out hx187_1
              replace hx187_2 := hx_ HB.out hx187_2
              replace hx187_3 := hx_ HB.out hx187_3
              replace hx187_4 := hx_ HB.out hx187_4
              replace hx187_5 := hx_ HB.out hx187_5
              have HR187_4 := Aside0.mk hi187_4
              have HC187_4 := Aside0.mk hl187_4
              clear hi187_4 hl187_4
              have HR187_5 := Aside0.mk hi187_5
              have HC187_5 := Aside0.mk hl187_5
              clear hi187_5 hl187_5
              replace p187 := eq_true p187
              replace q187 := eq_true q187
              have ea_ := Option.some.inj (hx186_4.symm.trans hx187_4)
              injection ea_ with ea_ en_ ec_
              subst ea_
              subst ec_
              clear en_
              have ea_ := Option.some.inj (hx186_5.symm.trans hx187_5)
              injection ea_ with ea_ en_ ec_
              subst ea_
              subst ec_
              clear en_
              have p188 : 0 ≤ (x7_3 : Int) := of_decide_eq_true tq_4
              have q188 : x7_3 < (((rd_T49 l0_2 t185).f5).length : Int) := of_decide_eq_true tq_4
              obtain ⟨ad188, e188, hx188_0, hx188_1⟩ := at_T59 HR187_5.out x7_3 p188 q188
              cases e188
              replace hx188_0 := hx_ HB.out hx188_0
              replace hx188_1 := hx_ HB.out hx188_1
              replace p188 := eq_true p188
              replace q188 := eq_true q188
              go_wp2
              go_roundg k3
              case measure => have := HJ2.out; have := HK2.out; have := HK3.out; omega
              case rel => exact ⟨(x5_3), (wrap64 (x7_3 + 1)), tq_11, H', ⟨by have := HJ2.out; have := HK2.out; have := HK3.out; omega⟩, ⟨by (with_reducible repeat (first | apply Kd.R_alloc | apply Kd.R_drewN | apply Kd.R_drew)); exact HO_5.out⟩, ⟨by (with_reducible repeat (first | refine blk_drewN ?_ _ | refine blk_drew ?_ | refine blk_alloc ?_ _)); exact BK178.out⟩, ⟨by repeat (first | (with_reducible first | exact HB.out | apply below_alloc | apply pw_below_drewN | apply below_drew1 | refine below_set ?_ GE178.out) | exact HB.out)⟩⟩
            ·rw [if_neg c23] at H
             exact absurd H (by simp)
           ·rw [if_neg c22] at H
            have c22b0 : decide (x7_3 < (((rd_T49 l0_2 t185).f5).length : Int)) = false := decide_eq_false c22
            clear c22
            have H' := Aside0.mk H
            clear H
            have hcz32_0 := bc_ BK178.out 0
            have hcz32_1 := bc_ BK178.out 1
            have hcz32_2 := bc_ BK178.out 2
            have hfz32_0 := blk_frozen BK178.out 0
            have hfz32_1 := blk_frozen BK178.out 1
            have hfz32_2 := blk_frozen BK178.out 2
            have p186 : 0 ≤ (t185 : Int) := of_decide_eq_true tq_4
            have q186 : t185 < (l0_2.length : Int) := of_decide_eq_true tq_4
            obtain ⟨ad186, A186_4, c186_4, A186_5, c186_5, e186, hx186_0, hx186_1, hx186_2, hx186_3, hx186_4, hx186_5, hl186_4, hi186_4, hl186_5, hi186_5⟩ := at_T49 HR0_2.out t185 p186 q186
            cases e186
            replace hx186_0 := hx_ HB.out hx186_0
            replace hx186_1 := hx_ HB.out hx186_1
            replace hx186_2 := hx_ HB.out hx186_2
            replace hx186_3 := hx_ HB.out hx186_3
            replace hx186_4 := hx_ HB.out hx186_4
            replace hx186_5 := hx_ HB.out hx186_5
            have HR186_4 := Aside0.mk hi186_4
            have HC186_4 := Aside0.mk hl186_4
            clear hi186_4 hl186_4
            have HR186_5 := Aside0.mk hi186_5
            have HC186_5 := Aside0.mk hl186_5
            clear hi186_5 hl186_5
            replace p186 := eq_true p186
            replace q186 := eq_true q186
            go_wp2
            go_roundg k3
            case measure => have := HJ2.out; have := HK2.out; have := HK3.out; omega
            case rel => exact ⟨(t185), (x5_3), tq_11, H', ⟨by have := HJ2.out; have := HK2.out; have := HK3.out; omega⟩, ⟨by (with_reducible repeat (first | apply Kd.R_alloc | apply Kd.R_drewN | apply Kd.R_drew)); exact HO_5.out⟩, ⟨by (with_reducible repeat (first | refine blk_drewN ?_ _ | refine blk_drew ?_ | refine blk_alloc ?_ _)); exact BK178.out⟩, ⟨by repeat (first | (with_reducible first | exact HB.out | apply below_alloc | apply pw_below_drewN | apply below_drew1 | refine below_set ?_ GE178.out) | exact HB.out)⟩⟩
          ·rw [if_neg c21] at H
           exact absurd H (by simp)
         ·rw [if_neg c20] at H
          exact absurd H (by simp)

end Go.Proofs.Ytcdnfkoahajhhaa.PFnExactFits
