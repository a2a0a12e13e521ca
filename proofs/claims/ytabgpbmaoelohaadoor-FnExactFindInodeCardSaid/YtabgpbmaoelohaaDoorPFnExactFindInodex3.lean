/- Contracts of Go functions, written by a program of ours over the print of the kit: each says that the call returns what the Lean function beside it computes. Conditions: as each theorem states them. -/
import Derived.Test.YtabgpbmaoelohaaDoorPkFnExactFindInode
import Derived.Test.YtabgpbmaoelohaaDoorPFnExactFindInodex0
import Derived.Test.YtabgpbmaoelohaaDoorPFnExactFindInodex1
import Derived.Test.YtabgpbmaoelohaaDoorPFnExactFindInodex2
namespace Go.Proofs.YtabgpbmaoelohaaDoor.PFnExactFindInode
open Go.RowKit Go.Proofs.YtabgpbmaoelohaaDoorW.PrintWords Go.Proofs.YtabgpbmaoelohaaDoorW.PrintLast Go.Proofs.YtabgpbmaoelohaaDoorW.PrintMore
attribute [local go_sem] max2_int min2_int max_two min_two max_three min_three max_four min_four   -- for this text's walks alone
set_option linter.unusedVariables false
set_option linter.unusedSimpArgs false

/-! ### spec_FindInode: function 33 -/
mutual
def spec_FindInode.j0 : Nat → List ByteArray → Bool → Int → List Int → List (S83) → Option (Int)
 | 0, _, _, _, _, _ => none
 | k + 1, x5, x24, x130000, x130001, x130002 => if x24 = true then (some (-1)) else (spec_FindInode.l0 k x5 0 0 x130000 x130001 x130002)
def spec_FindInode.l0 : Nat → List ByteArray → Int → Int → Int → List Int → List (S83) → Option (Int)
 | 0, _, _, _, _, _, _ => none
 | k + 1, x5, x7, x8, x130000, x130001, x130002 => if x8 < (x5.length : Int) then (spec_FindInode.l1 k x5 x7 x8 (-1) false 0 x130000 x130001 x130002) else (some x7)
def spec_FindInode.l1 : Nat → List ByteArray → Int → Int → Int → Bool → Int → Int → List Int → List (S83) → Option (Int)
 | 0, _, _, _, _, _, _, _, _, _ => none
 | k + 1, x5, x7, x8, x9, x10, x11, x130000, x130001, x130002 => if 0 ≤ x7 then (if x7 < (x130002.length : Int) then (if x11 < (((rd_T83 x130002 x7).f5).length : Int) then (if ((rd_T83 x130002 x7).f0) = 2 then (spec_FindInode.j3 k x5 x7 x8 x9 x10 x11 (!x10) x130000 x130001 x130002) else (spec_FindInode.j3 k x5 x7 x8 x9 x10 x11 false x130000 x130001 x130002)) else (spec_FindInode.j3 k x5 x7 x8 x9 x10 x11 false x130000 x130001 x130002)) else (none)) else (none)
def spec_FindInode.j3 : Nat → List ByteArray → Int → Int → Int → Bool → Int → Bool → Int → List Int → List (S83) → Option (Int)
 | 0, _, _, _, _, _, _, _, _, _, _ => none
 | k + 1, x5, x7, x8, x9, x10, x11, x52, x130000, x130001, x130002 => if x52 = true then (if 0 ≤ x7 then (if x7 < (x130002.length : Int) then (if 0 ≤ x11 then (if x11 < (((rd_T83 x130002 x7).f5).length : Int) then (if 0 ≤ x8 then (if x8 < (x5.length : Int) then (if ((rd_T85 ((rd_T83 x130002 x7).f5) x11).f1).toList = (rdOf ByteArray.empty x5 x8).toList then (spec_FindInode.l1 k x5 x7 x8 ((rd_T85 ((rd_T83 x130002 x7).f5) x11).f0) true (wrap64 (x11 + 1)) x130000 x130001 x130002) else (spec_FindInode.l1 k x5 x7 x8 x9 x10 (wrap64 (x11 + 1)) x130000 x130001 x130002)) else (none)) else (none)) else (none)) else (none)) else (none)) else (none)) else ((spec_l01In.f x9 0 (wrap64 ((x130002.length : Int) - 1))).bind fun t141 => (if t141 = true then (spec_FindInode.l0 k x5 x9 (wrap64 (x8 + 1)) x130000 x130001 x130002) else (some (-1))))
end
def spec_FindInode.f (k : Nat) (a0_0 : Int) (l0_1 : List Int) (l0_2 : List (S83)) (a1 : ByteArray) : Option (Int) := (spec_SplitPath.f k a1).bind fun bt130 => (if bt130.2 = 0 then (spec_FindInode.j0 k bt130.1 ((l0_2.length : Int) == 0) a0_0 l0_1 l0_2) else (spec_FindInode.j0 k bt130.1 true a0_0 l0_1 l0_2))
theorem spec_FindInode.mono_l : ∀ k, (∀ y0 y1 y2 y3 y4, LeO (spec_FindInode.j0 k y0 y1 y2 y3 y4) (spec_FindInode.j0 (k + 1) y0 y1 y2 y3 y4)) ∧ (∀ y0 y1 y2 y3 y4 y5, LeO (spec_FindInode.l0 k y0 y1 y2 y3 y4 y5) (spec_FindInode.l0 (k + 1) y0 y1 y2 y3 y4 y5)) ∧ (∀ y0 y1 y2 y3 y4 y5 y6 y7 y8, LeO (spec_FindInode.l1 k y0 y1 y2 y3 y4 y5 y6 y7 y8) (spec_FindInode.l1 (k + 1) y0 y1 y2 y3 y4 y5 y6 y7 y8)) ∧ (∀ y0 y1 y2 y3 y4 y5 y6 y7 y8 y9, LeO (spec_FindInode.j3 k y0 y1 y2 y3 y4 y5 y6 y7 y8 y9) (spec_FindInode.j3 (k + 1) y0 y1 y2 y3 y4 y5 y6 y7 y8 y9))
 | 0 => ⟨fun _ _ _ _ _ r h => by simp [spec_FindInode.j0] at h, fun _ _ _ _ _ _ r h => by simp [spec_FindInode.l0] at h, fun _ _ _ _ _ _ _ _ _ r h => by simp [spec_FindInode.l1] at h, fun _ _ _ _ _ _ _ _ _ _ r h => by simp [spec_FindInode.j3] at h⟩
 | k + 1 => by
  obtain ⟨ih0, ih1, ih2, ih3⟩ := spec_FindInode.mono_l k
  refine ⟨?_, ?_, ?_, ?_⟩
  ·intro y0 y1 y2 y3 y4
   unfold spec_FindInode.j0
   repeat' first
   | (with_reducible exact ih0 _ _ _ _ _)
   | (with_reducible exact ih1 _ _ _ _ _ _)
   | (with_reducible exact ih2 _ _ _ _ _ _ _ _ _)
   | (with_reducible exact ih3 _ _ _ _ _ _ _ _ _ _)
   | (with_reducible exact spec_SplitPath.mono _ _)
   | (with_reducible exact LeO.refl _)
   | (with_reducible exact LeO.none _)
   | (with_reducible refine LeO.ite ?_ ?_)
   | (with_reducible refine LeO.bind ?_ (fun _ => ?_))
   | exact ih0 _ _ _ _ _
   | exact ih1 _ _ _ _ _ _
   | exact ih2 _ _ _ _ _ _ _ _ _
   | exact ih3 _ _ _ _ _ _ _ _ _ _
   | exact spec_SplitPath.mono _ _
   | exact LeO.none _
   | refine LeO.ite ?_ ?_
   | refine LeO.bind ?_ (fun _ => ?_)
  ·intro y0 y1 y2 y3 y4 y5
   unfold spec_FindInode.l0
   repeat' first
   | (with_reducible exact ih0 _ _ _ _ _)
   | (with_reducible exact ih1 _ _ _ _ _ _)
   | (with_reducible exact ih2 _ _ _ _ _ _ _ _ _)
   | (with_reducible exact ih3 _ _ _ _ _ _ _ _ _ _)
   | (with_reducible exact spec_SplitPath.mono _ _)
   | (with_reducible exact LeO.refl _)
   | (with_reducible exact LeO.none _)
   | (with_reducible refine LeO.ite ?_ ?_)
   | (with_reducible refine LeO.bind ?_ (fun _ => ?_))
   | exact ih0 _ _ _ _ _
   | exact ih1 _ _ _ _ _ _
   | exact ih2 _ _ _ _ _ _ _ _ _
   | exact ih3 _ _ _ _ _ _ _ _ _ _
   | exact spec_SplitPath.mono _ _
   | exact LeO.none _
   | refine LeO.ite ?_ ?_
   | refine LeO.bind ?_ (fun _ => ?_)
  ·intro y0 y1 y2 y3 y4 y5 y6 y7 y8
   unfold spec_FindInode.l1
   repeat' first
   | (with_reducible exact ih0 _ _ _ _ _)
   | (with_reducible exact ih1 _ _ _ _ _ _)
   | (with_reducible exact ih2 _ _ _ _ _ _ _ _ _)
   | (with_reducible exact ih3 _ _ _ _ _ _ _ _ _ _)
   | (with_reducible exact spec_SplitPath.mono _ _)
   | (with_reducible exact LeO.refl _)
   | (with_reducible exact LeO.none _)
   | (with_reducible refine LeO.ite ?_ ?_)
   | (with_reducible refine LeO.bind ?_ (fun _ => ?_))
   | exact ih0 _ _ _ _ _
   | exact ih1 _ _ _ _ _ _
   | exact ih2 _ _ _ _ _ _ _ _ _
   | exact ih3 _ _ _ _ _ _ _ _ _ _
   | exact spec_SplitPath.mono _ _
   | exact LeO.none _
   | refine LeO.ite ?_ ?_
   | refine LeO.bind ?_ (fun _ => ?_)
  ·intro y0 y1 y2 y3 y4 y5 y6 y7 y8 y9
   unfold spec_FindInode.j3
   repeat' first
   | (with_reducible exact ih0 _ _ _ _ _)
   | (with_reducible exact ih1 _ _ _ _ _ _)
   | (with_reducible exact ih2 _ _ _ _ _ _ _ _ _)
   | (with_reducible exact ih3 _ _ _ _ _ _ _ _ _ _)
   | (with_reducible exact spec_SplitPath.mono _ _)
   | (with_reducible exact LeO.refl _)
   | (with_reducible exact LeO.none _)
   | (with_reducible refine LeO.ite ?_ ?_)
   | (with_reducible refine LeO.bind ?_ (fun _ => ?_))
   | exact ih0 _ _ _ _ _
   | exact ih1 _ _ _ _ _ _
   | exact ih2 _ _ _ _ _ _ _ _ _
   | exact ih3 _ _ _ _ _ _ _ _ _ _
   | exact spec_SplitPath.mono _ _
   | exact LeO.none _
   | refine LeO.ite ?_ ?_
   | refine LeO.bind ?_ (fun _ => ?_)
theorem spec_FindInode.mono : ∀ a0 a1 a2 a3 k, LeO (spec_FindInode.f k a0 a1 a2 a3) (spec_FindInode.f (k + 1) a0 a1 a2 a3) := by
 intro a0 a1 a2 a3 k
 obtain ⟨ih0, ih1, ih2, ih3⟩ := spec_FindInode.mono_l k
 unfold spec_FindInode.f
 repeat' first
   | (with_reducible exact ih0 _ _ _ _ _)
   | (with_reducible exact ih1 _ _ _ _ _ _)
   | (with_reducible exact ih2 _ _ _ _ _ _ _ _ _)
   | (with_reducible exact ih3 _ _ _ _ _ _ _ _ _ _)
   | (with_reducible exact spec_SplitPath.mono _ _)
   | (with_reducible exact LeO.refl _)
   | (with_reducible exact LeO.none _)
   | (with_reducible refine LeO.ite ?_ ?_)
   | (with_reducible refine LeO.bind ?_ (fun _ => ?_))
   | exact ih0 _ _ _ _ _
   | exact ih1 _ _ _ _ _ _
   | exact ih2 _ _ _ _ _ _ _ _ _
   | exact ih3 _ _ _ _ _ _ _ _ _ _
   | exact spec_SplitPath.mono _ _
   | exact LeO.none _
   | refine LeO.ite ?_ ?_
   | refine LeO.bind ?_ (fun _ => ?_)
set_option maxHeartbeats 8000000 in
set_option maxRecDepth 100000 in
theorem spec_FindInode.calls (k : Nat) (a0_0 : Int) (A0_1 : Option Addr) (c0_1 : Nat) (l0_1 : List Int) (A0_2 : Option Addr) (c0_2 : Nat) (l0_2 : List (S83)) (a1 : ByteArray) (r : Int) (w : World) (hr0_1 : Kd.C (Kd.int .i64) w A0_1 l0_1.length l0_1) (hc0_1 : l0_1.length ≤ c0_1) (hr0_2 : Kd.C k83 w A0_2 l0_2.length l0_2) (hc0_2 : l0_2.length ≤ c0_2) (h : spec_FindInode.f k a0_0 l0_1 l0_2 a1 = some r) :
  Calls Tryd.prog 33 #[.agg #[.int .i64 a0_0, .slice A0_1 l0_1.length c0_1, .slice A0_2 l0_2.length c0_2], .string a1] w fun e w' => e = .returned (.int .i64 r) ∧ Below w.heap.size w w' := by
 have hu51 := Tryd.underlying51
 have HR0_1 := Aside0.mk hr0_1
 have HC0_1 := Aside0.mk hc0_1
 clear hr0_1 hc0_1
 have HR0_2 := Aside0.mk hr0_2
 have HC0_2 := Aside0.mk hc0_2
 clear hr0_2 hc0_2
 have HB := Aside0.mk (Below.refl w.heap.size w)
 have H : ((spec_SplitPath.f k a1).bind fun bt130 => (if bt130.2 = 0 then (spec_FindInode.j0 k bt130.1 ((l0_2.length : Int) == 0) a0_0 l0_1 l0_2) else (spec_FindInode.j0 k bt130.1 true a0_0 l0_1 l0_2))) = some r := h
 clear h
 replace H := Option.bind_eq_some_iff.mp H
 obtain ⟨⟨t130, t131⟩, A30, H⟩ := H
 replace H : (if t131 = 0 then (spec_FindInode.j0 k t130 ((l0_2.length : Int) == 0) a0_0 l0_1 l0_2) else (spec_FindInode.j0 k t130 true a0_0 l0_1 l0_2)) = some r := H
 have A3 := Aside0.mk A30
 clear A30
 have HC4 := Aside0.mk H
 clear H
 go_enter Tryd.func33, Tryd.ntmps33
 go_upto_region 2 with (first | ((with_reducible refine gate_dst (N := 2) rfl ?_); (try (refine gate_guard (by rfl) ?_; dsimp only)); refine box_event ?hg (N := 2) ?hd (cs := #[.int .i64 a0_0, .slice A0_1 l0_1.length c0_1, .slice A0_2 l0_2.length c0_2]) (t := 51) ?hr ?_; (case hd => rfl); (case hg => rfl); (case hr => first | (go_simp; done) | (go_simp; rfl)); intro gb129 hg w5 hbox hb; have n0_ := Aside0.mk (below_step tq_0 hb); have n1_ := Aside0.mk (hbox); have n2_ := Aside0.mk (gb_ hg tq_0); have n3_ := Aside0.mk (gb_ hg tq_0); clear HB; have HB := n0_; have BK129 := n1_; have GW129 := n2_; have GE129 := n3_; clear n0_ n1_ n2_ n3_; clear hb hbox hg) | (go_at_call 17; (with_reducible refine (spec_SplitPath.calls k a1 t130 t131 _ A3.out).mono ?_); rintro e w6 ⟨v132, rfl, ho0, hb⟩; have n0_ := Aside0.mk (Kd.R_lower ho0 (below_size tq_38)); have n1_ := Aside0.mk (blk_below tq_78 hb); have n2_ := Aside0.mk (below_step tq_38 hb); clear BK129 HB; have HO133 := n0_; have BK129 := n1_; have HB := n2_; clear n0_ n1_ n2_; (try clear hb); (try clear hb2); (try clear hk); (try clear hi); (try clear ho0)))
 repeat (go_quiet (first | ((with_reducible refine gate_dst (N := 2) rfl ?_); (try (refine gate_guard (by rfl) ?_; dsimp only)); refine box_event ?hg (N := 2) ?hd (cs := #[.int .i64 a0_0, .slice A0_1 l0_1.length c0_1, .slice A0_2 l0_2.length c0_2]) (t := 51) ?hr ?_; (case hd => rfl); (case hg => rfl); (case hr => first | (go_simp; done) | (go_simp; rfl)); intro gb129 hg w5 hbox hb; have n0_ := Aside0.mk (below_step tq_0 hb); have n1_ := Aside0.mk (hbox); have n2_ := Aside0.mk (gb_ hg tq_0); have n3_ := Aside0.mk (gb_ hg tq_0); clear HB; have HB := n0_; have BK129 := n1_; have GW129 := n2_; have GE129 := n3_; clear n0_ n1_ n2_ n3_; clear hb hbox hg) | (go_at_call 17; (with_reducible refine (spec_SplitPath.calls k a1 t130 t131 _ A3.out).mono ?_); rintro e w6 ⟨v132, rfl, ho0, hb⟩; have n0_ := Aside0.mk (Kd.R_lower ho0 (below_size tq_38)); have n1_ := Aside0.mk (blk_below tq_78 hb); have n2_ := Aside0.mk (below_step tq_38 hb); clear BK129 HB; have HO133 := n0_; have BK129 := n1_; have HB := n2_; clear n0_ n1_ n2_; (try clear hb); (try clear hb2); (try clear hk); (try clear hi); (try clear ho0))); go_upto_region 2 with (first | ((with_reducible refine gate_dst (N := 2) rfl ?_); (try (refine gate_guard (by rfl) ?_; dsimp only)); refine box_event ?hg (N := 2) ?hd (cs := #[.int .i64 a0_0, .slice A0_1 l0_1.length c0_1, .slice A0_2 l0_2.length c0_2]) (t := 51) ?hr ?_; (case hd => rfl); (case hg => rfl); (case hr => first | (go_simp; done) | (go_simp; rfl)); intro gb129 hg w5 hbox hb; have n0_ := Aside0.mk (below_step tq_0 hb); have n1_ := Aside0.mk (hbox); have n2_ := Aside0.mk (gb_ hg tq_0); have n3_ := Aside0.mk (gb_ hg tq_0); clear HB; have HB := n0_; have BK129 := n1_; have GW129 := n2_; have GE129 := n3_; clear n0_ n1_ n2_ n3_; clear hb hbox hg) | (go_at_call 17; (with_reducible refine (spec_SplitPath.calls k a1 t130 t131 _ A3.out).mono ?_); rintro e w6 ⟨v132, rfl, ho0, hb⟩; have n0_ := Aside0.mk (Kd.R_lower ho0 (below_size tq_38)); have n1_ := Aside0.mk (blk_below tq_78 hb); have n2_ := Aside0.mk (below_step tq_38 hb); clear BK129 HB; have HO133 := n0_; have BK129 := n1_; have HB := n2_; clear n0_ n1_ n2_; (try clear hb); (try clear hb2); (try clear hk); (try clear hi); (try clear ho0))))
 (try simp only [Act.put, List.setIfInBounds_toArray, List.set_cons_zero, List.set_cons_succ])
 go_cut [24] (fun v24 wc => ∃ (kq : Nat) (x24_3 : Bool), v24 = .bool x24_3 ∧ Aside0 (spec_FindInode.j0 kq t130 x24_3 a0_0 l0_1 l0_2 = some r) ∧ Aside0 (kq ≤ k) ∧ Aside0 (Kd.R Kd.string 9 wc w.heap.size (fun _ => True) v132 t130) ∧ Aside0 (wc.heap[gb129]? = some (.cells #[.int .i64 a0_0, (.slice A0_1 l0_1.length c0_1), (.slice A0_2 l0_2.length c0_2)] 51 (0, 0))) ∧ Aside0 (Below w.heap.size w wc))
 case first =>
  have H := HC4.out
  clear HC4
  by_cases c7 : t131 = 0
  ·rw [if_pos c7] at H
   have c7b0 : (t131 == 0) = true := beq_iff_eq.mpr c7
   have c7b1 : (t131 != 0) = false := bne_eq_false_iff_eq.mpr c7
   clear c7
   (first | rw [c7b0] | (simp only [i64_w, i32_w]; rw [c7b0]) | skip)
   have H' := Aside0.mk H
   clear H
   have hcz8_0 := bc_ BK129.out 0
   have hcz8_1 := bc_ BK129.out 1
   have hcz8_2 := bc_ BK129.out 2
   have hfz8_0 := blk_frozen BK129.out 0
   have hfz8_1 := blk_frozen BK129.out 1
   have hfz8_2 := blk_frozen BK129.out 2
   go_wp2
   repeat (go_quiet (fail); try go_wp2)
   go_meet
   case rel => exact ⟨_, (((l0_2.length : Int) == 0)), tq_5, H', ⟨by first | omega | exact Nat.le_refl _⟩, ⟨by (with_reducible repeat (first | apply Kd.R_alloc | apply Kd.R_drewN | apply Kd.R_drew)); exact HO133.out⟩, ⟨by (with_reducible repeat (first | refine blk_drewN ?_ _ | refine blk_drew ?_ | refine blk_alloc ?_ _)); exact BK129.out⟩, ⟨by repeat (first | (with_reducible first | exact HB.out | apply below_alloc | apply pw_below_drewN | apply below_drew1 | refine below_set ?_ GE129.out) | exact HB.out)⟩⟩
  ·rw [if_neg c7] at H
   have c7b0 : (t131 == 0) = false := beq_eq_false_iff_ne.mpr c7
   have c7b1 : (t131 != 0) = true := bne_iff_ne.mpr c7
   (first | rw [c7b0] | (simp only [i64_w, i32_w]; rw [c7b0]) | skip)
   have H' := Aside0.mk H
   clear H
   go_wp2
   repeat (go_quiet (fail); try go_wp2)
   go_meet
   case rel => exact ⟨_, (true), tq_5, H', ⟨by first | omega | exact Nat.le_refl _⟩, ⟨by (with_reducible repeat (first | apply Kd.R_alloc | apply Kd.R_drewN | apply Kd.R_drew)); exact HO133.out⟩, ⟨by (with_reducible repeat (first | refine blk_drewN ?_ _ | refine blk_drew ?_ | refine blk_alloc ?_ _)); exact BK129.out⟩, ⟨by repeat (first | (with_reducible first | exact HB.out | apply below_alloc | apply pw_below_drewN | apply below_drew1 | refine below_set ?_ GE129.out) | exact HB.out)⟩⟩
 case rest =>
  clear HC4
  try clear p2
  try clear c3
  try clear c7
  try clear c7b0
  try clear c7b1
  try clear hcz8_0
  try clear hcz8_1
  try clear hcz8_2
  try clear hfz8_0
  try clear hfz8_1
  try clear hfz8_2
  obtain ⟨kq, x24_3, rfl, HA, HJ3, HO_5, BK129, HB⟩ := hcut
  cases kq with
  | zero => exact absurd HA.out (by simp [spec_FindInode.j0])
  | succ kj3 =>
   have H := HA.out
   clear HA
   simp only [spec_FindInode.j0] at H
   by_cases c9 : x24_3 = true
   ·subst c9
    have H1 : (some (-1)) = some r := by rw [if_pos rfl] at H; exact H
    clear H
    have H := H1
    clear H1
    obtain rfl := Option.some.inj H
    go_wp2
    repeat (go_quiet (fail); try go_wp2)
    go_ret
    exact ⟨by first | rfl | (simp [errW_none, errW_some] <;> rfl) | (simp [*, errW_none, errW_some] <;> rfl), by repeat (first | (with_reducible first | exact HB.out | apply below_alloc | apply pw_below_drewN | apply below_drew1 | refine below_set ?_ GE129.out) | exact HB.out)⟩
   ·replace c9 := Bool.eq_false_iff.mpr c9
    subst c9
    have H1 : (spec_FindInode.l0 kj3 t130 0 0 a0_0 l0_1 l0_2) = some r := by rw [if_neg (show ¬ (false = true) by decide)] at H; exact H
    clear H
    have H := H1
    clear H1
    have H' := Aside0.mk H
    clear H
    go_wp2
    repeat (go_quiet (fail); try go_wp2)
    go_loopg [7, 8] kj3 (fun kq v7 v8 w' => ∃ (x7_2 : Int) (x8_2 : Int), v7 = .int .i64 x7_2 ∧ v8 = .int .i64 x8_2 ∧ Aside0 (spec_FindInode.l0 kq t130 x7_2 x8_2 a0_0 l0_1 l0_2 = some r) ∧ Aside0 (kq ≤ kj3) ∧ Aside0 (Kd.R Kd.string 9 w' w.heap.size (fun _ => True) v132 t130) ∧ Aside0 (w'.heap[gb129]? = some (.cells #[.int .i64 a0_0, (.slice A0_1 l0_1.length c0_1), (.slice A0_2 l0_2.length c0_2)] 51 (0, 0))) ∧ Aside0 (Below w.heap.size w w'))
    case atStart => exact ⟨(0), (0), tq_5, tq_5, H', ⟨Nat.le_refl _⟩, ⟨by (with_reducible repeat (first | apply Kd.R_alloc | apply Kd.R_drewN | apply Kd.R_drew)); exact HO_5.out⟩, ⟨by (with_reducible repeat (first | refine blk_drewN ?_ _ | refine blk_drew ?_ | refine blk_alloc ?_ _)); exact BK129.out⟩, ⟨by repeat (first | (with_reducible first | exact HB.out | apply below_alloc | apply pw_below_drewN | apply below_drew1 | refine below_set ?_ GE129.out) | exact HB.out)⟩⟩
    case round =>
     clear H'
     try clear p2
     try clear c3
     try clear c7
     try clear c7b0
     try clear c7b1
     try clear c9
     try clear hcz8_0
     try clear hcz8_1
     try clear hcz8_2
     try clear hfz8_0
     try clear hfz8_1
     try clear hfz8_2
     try clear p2
     obtain ⟨x7_2, x8_2, rfl, rfl, HA, HK2, HO_5, BK129, HB⟩ := hrel
     cases gk with
     | zero => exact absurd HA.out (by simp [spec_FindInode.l0])
     | succ k2 =>
      have H := HA.out
      clear HA
      simp only [spec_FindInode.l0] at H
      by_cases c10 : x8_2 < (t130.length : Int)
      ·rw [if_pos c10] at H
       have c10b0 : decide (x8_2 < (t130.length : Int)) = true := decide_eq_true c10
       clear c10
       have H' := Aside0.mk H
       clear H
       obtain ⟨Ao11, co11, eo11⟩ := Kd.R_slice HO_5.out
       subst eo11
       go_wp2
       repeat (go_quiet (fail); try go_wp2)
       go_loopg [9, 10, 11] k2 (fun kq v9 v10 v11 w' => ∃ (x9_3 : Int) (x10_3 : Bool) (x11_3 : Int), v9 = .int .i64 x9_3 ∧ v10 = .bool x10_3 ∧ v11 = .int .i64 x11_3 ∧ Aside0 (spec_FindInode.l1 kq t130 x7_2 x8_2 x9_3 x10_3 x11_3 a0_0 l0_1 l0_2 = some r) ∧ Aside0 (kq ≤ k2) ∧ Aside0 (Kd.R Kd.string 9 w' w.heap.size (fun _ => True) (.slice Ao11 t130.length co11) t130) ∧ Aside0 (w'.heap[gb129]? = some (.cells #[.int .i64 a0_0, (.slice A0_1 l0_1.length c0_1), (.slice A0_2 l0_2.length c0_2)] 51 (0, 0))) ∧ Aside0 (Below w.heap.size w w'))
       case atStart => exact ⟨((-1)), (false), (0), tq_5, tq_5, tq_5, H', ⟨Nat.le_refl _⟩, ⟨by (with_reducible repeat (first | apply Kd.R_alloc | apply Kd.R_drewN | apply Kd.R_drew)); exact HO_5.out⟩, ⟨by (with_reducible repeat (first | refine blk_drewN ?_ _ | refine blk_drew ?_ | refine blk_alloc ?_ _)); exact BK129.out⟩, ⟨by repeat (first | (with_reducible first | exact HB.out | apply below_alloc | apply pw_below_drewN | apply below_drew1 | refine below_set ?_ GE129.out) | exact HB.out)⟩⟩
       case round =>
        clear H'
        try clear c1
        try clear p2
        try clear c3
        try clear c7
        try clear c7b0
        try clear c7b1
        try clear c9
        try clear c10
        try clear c10b0
        try clear hcz8_0
        try clear hcz8_1
        try clear hcz8_2
        try clear hfz8_0
        try clear hfz8_1
        try clear hfz8_2
        try clear p2
        obtain ⟨x9_3, x10_3, x11_3, rfl, rfl, rfl, HA, HK3, HO_5, BK129, HB⟩ := hrel
        cases gk with
        | zero => exact absurd HA.out (by simp [spec_FindInode.l1])
        | succ k3 =>
         have H := HA.out
         clear HA
         simp only [spec_FindInode.l1] at H
         have HC12 := Aside0.mk H
         clear H
         go_upto_region 11 with (fail)
         repeat (go_quiet (fail); go_upto_region 11 with (fail))
         go_cut [52] (fun v52 wc => ∃ (kq : Nat) (x52_11 : Bool), v52 = .bool x52_11 ∧ Aside0 (spec_FindInode.j3 kq t130 x7_2 x8_2 x9_3 x10_3 x11_3 x52_11 a0_0 l0_1 l0_2 = some r) ∧ Aside0 (kq ≤ k3) ∧ Aside0 (Kd.R Kd.string 9 wc w.heap.size (fun _ => True) (.slice Ao11 t130.length co11) t130) ∧ Aside0 (wc.heap[gb129]? = some (.cells #[.int .i64 a0_0, (.slice A0_1 l0_1.length c0_1), (.slice A0_2 l0_2.length c0_2)] 51 (0, 0))) ∧ Aside0 (Below w.heap.size w wc))
         case first =>
          have H := HC12.out
          clear HC12
          by_cases c13 : 0 ≤ x7_2
          ·rw [if_pos c13] at H
           have c13b0 : decide (0 ≤ x7_2) = true := decide_eq_true c13
           clear c13
           (first | rw [c13b0] | (simp only [i64_w, i32_w]; rw [c13b0]) | skip)
           by_cases c14 : x7_2 < (l0_2.length : Int)
           ·rw [if_pos c14] at H
            have c14b0 : decide (x7_2 < (l0_2.length : Int)) = true := decide_eq_true c14
            clear c14
            by_cases c15 : x11_3 < (((rd_T83 l0_2 x7_2).f5).length : Int)
            ·rw [if_pos c15] at H
             have c15b0 : decide (x11_3 < (((rd_T83 l0_2 x7_2).f5).length : Int)) = true := decide_eq_true c15
             clear c15
             by_cases c16 : ((rd_T83 l0_2 x7_2).f0) = 2
             ·rw [if_pos c16] at H
              have c16b0 : (((rd_T83 l0_2 x7_2).f0) == 2) = true := beq_iff_eq.mpr c16
              have c16b1 : (((rd_T83 l0_2 x7_2).f0) != 2) = false := bne_eq_false_iff_eq.mpr c16
              clear c16
              have H' := Aside0.mk H
              clear H
              have hcz17_0 := bc_ BK129.out 0
              have hcz17_1 := bc_ BK129.out 1
              have hcz17_2 := bc_ BK129.out 2
              have hfz17_0 := blk_frozen BK129.out 0
              have hfz17_1 := blk_frozen BK129.out 1
              have hfz17_2 := blk_frozen BK129.out 2
              have p134 : 0 ≤ (x7_2 : Int) := of_decide_eq_true tq_2
              have q134 : x7_2 < (l0_2.length : Int) := of_decide_eq_true tq_2
              obtain ⟨ad134, A134_4, c134_4, A134_5, c134_5, e134, hx134_0, hx134_1, hx134_2, hx134_3, hx134_4, hx134_5, hl134_4, hi134_4, hl134_5, hi134_5⟩ := at_T83 HR0_2.out x7_2 p134 q134
              cases e134
              replace hx134_0 := hx_ HB.out hx134_0
              replace hx134_1 := hx_ HB.out hx134_1
              replace hx134_2 := hx_ HB.out hx134_2
              replace hx134_3 := hx_ HB.out hx134_3
              replace hx134_4 := hx_ HB.out hx134_4
              replace hx134_5 := hx_ HB.out hx134_5
              have HR134_4 := Aside0.mk hi134_4
              have HC134_4 := Aside0.mk hl134_4
              clear hi134_4 hl134_4
              have HR134_5 := Aside0.mk hi134_5
              have HC134_5 := Aside0.mk hl134_5
              clear hi134_5 hl134_5
              replace p134 := eq_true p134
              replace q134 := eq_true q134
              have p135 : 0 ≤ (x7_2 : Int) := of_decide_eq_true tq_2
              have q135 : x7_2 < (l0_2.length : Int) := of_decide_eq_true tq_2
              obtain ⟨ad135, A135_4, c135_4, A135_5, c135_5, e135, hx135_0, hx135_1, hx135_2, hx135_3, hx135_4, hx135_5, hl135_4, hi135_4, hl135_5, hi135_5⟩ := at_T83 HR0_2.out x7_2 p135 q135
              obtain rfl : ad134 = ad135 := (by injection e135)
              replace hx135_0 := hx_ HB.out hx135_0
              replace hx135_1 := hx_ HB.out hx135_1
              replace hx135_2 := hx_ HB.out hx135_2
              replace hx135_3 := hx_ HB.out hx135_3
              replace hx135_4 := hx_ HB.out hx135_4
              replace hx135_5 := hx_ HB.out hx135_5
              have HR135_4 := Aside0.mk hi135_4
              have HC135_4 := Aside0.mk hl135_4
              clear hi135_4 hl135_4
              have HR135_5 := Aside0.mk hi135_5
              have HC135_5 := Aside0.mk hl135_5
              clear hi135_5 hl135_5
              replace p135 := eq_true p135
              replace q135 := eq_true q135
              have ea_ := Option.some.inj (hx134_4.symm.trans hx135_4)
              injection ea_ with ea_ en_ ec_
              subst ea_
              subst ec_
              clear en_
              have ea_ := Option.some.inj (hx134_5.symm.trans hx135_5)
              injection ea_ with ea_ en_ ec_
              subst ea_
              subst ec_
              clear en_
              go_wp2
              repeat (go_quiet (fail); try go_wp2)
              go_meet
              case rel => exact ⟨_, (!x10_3), tq_5, H', ⟨by have := HJ3.out; have := HK2.out; have := HK3.out; first | omega | exact Nat.le_refl _⟩, ⟨by (with_reducible repeat (first | apply Kd.R_alloc | apply Kd.R_drewN | apply Kd.R_drew)); exact HO_5.out⟩, ⟨by (with_reducible repeat (first | refine blk_drewN ?_ _ | refine blk_drew ?_ | refine blk_alloc ?_ _)); exact BK129.out⟩, ⟨by repeat (first | (with_reducible first | exact HB.out | apply below_alloc | apply pw_below_drewN | apply below_drew1 | refine below_set ?_ GE129.out) | exact HB.out)⟩⟩
             ·rw [if_neg c16] at H
              have c16b0 : (((rd_T83 l0_2 x7_2).f0) == 2) = false := beq_eq_false_iff_ne.mpr c16
              have c16b1 : (((rd_T83 l0_2 x7_2).f0) != 2) = true := bne_iff_ne.mpr c16
              have H' := Aside0.mk H
              clear H
              have hcz18_0 := bc_ BK129.out 0
              have hcz18_1 := bc_ BK129.out 1
              have hcz18_2 := bc_ BK129.out 2
              have hfz18_0 := blk_frozen BK129.out 0
              have hfz18_1 := blk_frozen BK129.out 1
              have hfz18_2 := blk_frozen BK129.out 2
              have p134 : 0 ≤ (x7_2 : Int) := of_decide_eq_true tq_2
              have q134 : x7_2 < (l0_2.length : Int) := of_decide_eq_true tq_2
              obtain ⟨ad134, A134_4, c134_4, A134_5, c134_5, e134, hx134_0, hx134_1, hx134_2, hx134_3, hx134_4, hx134_5, hl134_4, hi134_4, hl134_5, hi134_5⟩ := at_T83 HR0_2.out x7_2 p134 q134
              cases e134
              replace hx134_0 := hx_ HB.out hx134_0
              replace hx134_1 := hx_ HB.out hx134_1
              replace hx134_2 := hx_ HB.out hx134_2
              replace hx134_3 := hx_ HB.out hx134_3
              replace hx134_4 := hx_ HB.out hx134_4
              replace hx134_5 := hx_ HB.out hx134_5
              have HR134_4 := Aside0.mk hi134_4
              have HC134_4 := Aside0.mk hl134_4
              clear hi134_4 hl134_4
              have HR134_5 := Aside0.mk hi134_5
              have HC134_5 := Aside0.mk hl134_5
              clear hi134_5 hl134_5
              replace p134 := eq_true p134
              replace q134 := eq_true q134
              have p135 : 0 ≤ (x7_2 : Int) := of_decide_eq_true tq_2
              have q135 : x7_2 < (l0_2.length : Int) := of_decide_eq_true tq_2
              obtain ⟨ad135, A135_4, c135_4, A135_5, c135_5, e135, hx135_0, hx135_1, hx135_2, hx135_3, hx135_4, hx135_5, hl135_4, hi135_4, hl135_5, hi135_5⟩ := at_T83 HR0_2.out x7_2 p135 q135
              obtain rfl : ad134 = ad135 := (by injection e135)
              replace hx135_0 := hx_ HB.out hx135_0
              replace hx135_1 := hx_ HB.out hx135_1
              replace hx135_2 := hx_ HB.out hx135_2
              replace hx135_3 := hx_ HB.out hx135_3
              replace hx135_4 := hx_ HB.out hx135_4
              replace hx135_5 := hx_ HB.out hx135_5
              have HR135_4 := Aside0.mk hi135_4
              have HC135_4 := Aside0.mk hl135_4
              clear hi135_4 hl135_4
              have HR135_5 := Aside0.mk hi135_5
              have HC135_5 := Aside0.mk hl135_5
              clear hi135_5 hl135_5
              replace p135 := eq_true p135
              replace q135 := eq_true q135
              have ea_ := Option.some.inj (hx134_4.symm.trans hx135_4)
              injection ea_ with ea_ en_ ec_
              subst ea_
              subst ec_
              clear en_
              have ea_ := Option.some.inj (hx134_5.symm.trans hx135_5)
              injection ea_ with ea_ en_ ec_
              subst ea_
              subst ec_
              clear en_
              go_wp2
              repeat (go_quiet (fail); try go_wp2)
              go_meet
              case rel => exact ⟨_, (false), tq_5, H', ⟨by have := HJ3.out; have := HK2.out; have := HK3.out; first | omega | exact Nat.le_refl _⟩, ⟨by (with_reducible repeat (first | apply Kd.R_alloc | apply Kd.R_drewN | apply Kd.R_drew)); exact HO_5.out⟩, ⟨by (with_reducible repeat (first | refine blk_drewN ?_ _ | refine blk_drew ?_ | refine blk_alloc ?_ _)); exact BK129.out⟩, ⟨by repeat (first | (with_reducible first | exact HB.out | apply below_alloc | apply pw_below_drewN | apply below_drew1 | refine below_set ?_ GE129.out) | exact HB.out)⟩⟩
            ·rw [if_neg c15] at H
             have c15b0 : decide (x11_3 < (((rd_T83 l0_2 x7_2).f5).length : Int)) = false := decide_eq_false c15
             clear c15
             have H' := Aside0.mk H
             clear H
             have hcz19_0 := bc_ BK129.out 0
             have hcz19_1 := bc_ BK129.out 1
             have hcz19_2 := bc_ BK129.out 2
             have hfz19_0 := blk_frozen BK129.out 0
             have hfz19_1 := blk_frozen BK129.out 1
             have hfz19_2 := blk_frozen BK129.out 2
             have p134 : 0 ≤ (x7_2 : Int) := of_decide_eq_true tq_2
             have q134 : x7_2 < (l0_2.length : Int) := of_decide_eq_true tq_2
             obtain ⟨ad134, A134_4, c134_4, A134_5, c134_5, e134, hx134_0, hx134_1, hx134_2, hx134_3, hx134_4, hx134_5, hl134_4, hi134_4, hl134_5, hi134_5⟩ := at_T83 HR0_2.out x7_2 p134 q134
             cases e134
             replace hx134_0 := hx_ HB.out hx134_0
             replace hx134_1 := hx_ HB.out hx134_1
             replace hx134_2 := hx_ HB.out hx134_2
             replace hx134_3 := hx_ HB.out hx134_3
             replace hx134_4 := hx_ HB.out hx134_4
             replace hx134_5 := hx_ HB.out hx134_5
             have HR134_4 := Aside0.mk hi134_4
             have HC134_4 := Aside0.mk hl134_4
             clear hi134_4 hl134_4
             have HR134_5 := Aside0.mk hi134_5
             have HC134_5 := Aside0.mk hl134_5
             clear hi134_5 hl134_5
             replace p134 := eq_true p134
             replace q134 := eq_true q134
             go_wp2
             repeat (go_quiet (fail); try go_wp2)
             go_meet
             case rel => exact ⟨_, (false), tq_5, H', ⟨by have := HJ3.out; have := HK2.out; have := HK3.out; first | omega | exact Nat.le_refl _⟩, ⟨by (with_reducible repeat (first | apply Kd.R_alloc | apply Kd.R_drewN | apply Kd.R_drew)); exact HO_5.out⟩, ⟨by (with_reducible repeat (first | refine blk_drewN ?_ _ | refine blk_drew ?_ | refine blk_alloc ?_ _)); exact BK129.out⟩, ⟨by repeat (first | (with_reducible first | exact HB.out | apply below_alloc | apply pw_below_drewN | apply below_drew1 | refine below_set ?_ GE129.out) | exact HB.out)⟩⟩
           ·rw [if_neg c14] at H
            exact absurd H (by simp)
          ·rw [if_neg c13] at H
           exact absurd H (by simp)
         case rest =>
          clear HC12
          try clear c1
          try clear p1
          try clear q1
          try clear hx1
          try clear p2
          try clear c3
          try clear c7
          try clear c7b0
          try clear c7b1
          try clear c9
          try clear c10
          try clear c10b0
          try clear c13
          try clear c13b0
          try clear p13
          try clear q13
          try clear hx13
          try clear c14
          try clear c14b0
          try clear c15
          try clear c15b0
          try clear c16
          try clear c16b0
          try clear c16b1
          try clear hcz17_0
          try clear hcz17_1
          try clear hcz17_2
          try clear hcz18_0
          try clear hcz18_1
          try clear hcz18_2
          try clear hcz19_0
          try clear hcz19_1
          try clear hcz19_2
          try clear hcz8_0
          try clear hcz8_1
          try clear hcz8_2
          try clear hfz17_0
          try clear hfz17_1
          try clear hfz17_2
          try clear hfz18_0
          try clear hfz18_1
          try clear hfz18_2
          try clear hfz19_0
          try clear hfz19_1
          try clear hfz19_2
          try clear hfz8_0
          try clear hfz8_1
          try clear hfz8_2
          try clear hx134_0
          try clear hx134_1
          try clear hx134_2
          try clear hx134_3
          try clear hx134_4
          try clear hx134_5
          try clear hx135_0
          try clear hx135_1
          try clear hx135_2
          try clear hx135_3
          try clear hx135_4
          try clear hx135_5
          try clear p134
          try clear p135
          try clear p2
          try clear q134
          try clear q135
          obtain ⟨kq, x52_11, rfl, HA, HJ11, HO_5, BK129, HB⟩ := hcut
          cases kq with
          | zero => exact absurd HA.out (by simp [spec_FindInode.j3])
          | succ kj11 =>
           have H := HA.out
           clear HA
           simp only [spec_FindInode.j3] at H
           by_cases c20 : x52_11 = true
           ·subst c20
            have H1 : (if 0 ≤ x7_2 then (if x7_2 < (l0_2.length : Int) then (if 0 ≤ x11_3 then (if x11_3 < (((rd_T83 l0_2 x7_2).f5).length : Int) then (if 0 ≤ x8_2 then (if x8_2 < (t130.length : Int) then (if ((rd_T85 ((rd_T83 l0_2 x7_2).f5) x11_3).f1).toList = (rdOf ByteArray.empty t130 x8_2).toList then (spec_FindInode.l1 kj11 t130 x7_2 x8_2 ((rd_T85 ((rd_T83 l0_2 x7_2).f5) x11_3).f0) true (wrap64 (x11_3 + 1)) a0_0 l0_1 l0_2) else (spec_FindInode.l1 kj11 t130 x7_2 x8_2 x9_3 x10_3 (wrap64 (x11_3 + 1)) a0_0 l0_1 l0_2)) else (none)) else (none)) else (none)) else (none)) else (none)) else (none)) = some r := by rw [if_pos rfl] at H; exact H
            clear H
            have H := H1
            clear H1
            by_cases c21 : 0 ≤ x7_2
            ·rw [if_pos c21] at H
             have c21b0 : decide (0 ≤ x7_2) = true := decide_eq_true c21
             clear c21
             by_cases c22 : x7_2 < (l0_2.length : Int)
             ·rw [if_pos c22] at H
              have c22b0 : decide (x7_2 < (l0_2.length : Int)) = true := decide_eq_true c22
              clear c22
              by_cases c23 : 0 ≤ x11_3
              ·rw [if_pos c23] at H
               have c23b0 : decide (0 ≤ x11_3) = true := decide_eq_true c23
               clear c23
               by_cases c24 : x11_3 < (((rd_T83 l0_2 x7_2).f5).length : Int)
               ·rw [if_pos c24] at H
                have c24b0 : decide (x11_3 < (((rd_T83 l0_2 x7_2).f5).length : Int)) = true := decide_eq_true c24
                clear c24
                by_cases c25 : 0 ≤ x8_2
                ·rw [if_pos c25] at H
                 have c25b0 : decide (0 ≤ x8_2) = true := decide_eq_true c25
                 clear c25
                 by_cases c26 : x8_2 < (t130.length : Int)
                 ·rw [if_pos c26] at H
                  have c26b0 : decide (x8_2 < (t130.length : Int)) = true := decide_eq_true c26
                  clear c26
                  by_cases c27 : ((rd_T85 ((rd_T83 l0_2 x7_2).f5) x11_3).f1).toList = (rdOf ByteArray.empty t130 x8_2).toList
                  ·rw [if_pos c27] at H
                   have c27b0 : (((rd_T85 ((rd_T83 l0_2 x7_2).f5) x11_3).f1).toList == (rdOf ByteArray.empty t130 x8_2).toList) = true := beq_iff_eq.mpr c27
                   have c27b1 : (((rd_T85 ((rd_T83 l0_2 x7_2).f5) x11_3).f1).toList != (rdOf ByteArray.empty t130 x8_2).toList) = false := bne_eq_false_iff_eq.mpr c27
                   clear c27
                   have H' := Aside0.mk H
                   clear H
                   have hcz28_0 := bc_ BK129.out 0
                   have hcz28_1 := bc_ BK129.out 1
                   have hcz28_2 := bc_ BK129.out 2
                   have hfz28_0 := blk_frozen BK129.out 0
                   have hfz28_1 := blk_frozen BK129.out 1
                   have hfz28_2 := blk_frozen BK129.out 2
                   have p136 : 0 ≤ (x7_2 : Int) := of_decide_eq_true tq_2
                   have q136 : x7_2 < (l0_2.length : Int) := of_decide_eq_true tq_2
                   obtain ⟨ad136, A136_4, c136_4, A136_5, c136_5, e136, hx136_0, hx136_1, hx136_2, hx136_3, hx136_4, hx136_5, hl136_4, hi136_4, hl136_5, hi136_5⟩ := at_T83 HR0_2.out x7_2 p136 q136
                   cases e136
                   replace hx136_0 := hx_ HB.out hx136_0
                   replace hx136_1 := hx_ HB.out hx136_1
                   replace hx136_2 := hx_ HB.out hx136_2
                   replace hx136_3 := hx_ HB.out hx136_3
                   replace hx136_4 := hx_ HB.out hx136_4
                   replace hx136_5 := hx_ HB.out hx136_5
                   have HR136_4 := Aside0.mk hi136_4
                   have HC136_4 := Aside0.mk hl136_4
                   clear hi136_4 hl136_4
                   have HR136_5 := Aside0.mk hi136_5
                   have HC136_5 := Aside0.mk hl136_5
                   clear hi136_5 hl136_5
                   replace p136 := eq_true p136
                   replace q136 := eq_true q136
                   have p137 : 0 ≤ (x11_3 : Int) := of_decide_eq_true tq_2
                   have q137 : x11_3 < (((rd_T83 l0_2 x7_2).f5).length : Int) := of_decide_eq_true tq_2
                   obtain ⟨ad137, e137, hx137_0, hx137_1⟩ := at_T85 HR136_5.out x11_3 p137 q137
                   cases e137
                   replace hx137_0 := hx_ HB.out hx137_0
                   replace hx137_1 := hx_ HB.out hx137_1
                   replace p137 := eq_true p137
                   replace q137 := eq_true q137
                   have p138 : 0 ≤ (x8_2 : Int) := of_decide_eq_true tq_2
                   have q138 : x8_2 < (t130.length : Int) := of_decide_eq_true tq_2
                   obtain ⟨ad138, e138, hx138_0⟩ := Kd.at_string (Kd.R_reads' HO_5.out).2.2 x8_2 p138 q138
                   cases e138
                   replace p138 := eq_true p138
                   replace q138 := eq_true q138
                   have p139 : 0 ≤ (x7_2 : Int) := of_decide_eq_true tq_2
                   have q139 : x7_2 < (l0_2.length : Int) := of_decide_eq_true tq_2
                   obtain ⟨ad139, A139_4, c139_4, A139_5, c139_5, e139, hx139_0, hx139_1, hx139_2, hx139_3, hx139_4, hx139_5, hl139_4, hi139_4, hl139_5, hi139_5⟩ := at_T83 HR0_2.out x7_2 p139 q139
                   obtain rfl : ad136 = ad139 := (by injection e139)
                   replace hx139_0 := hx_ HB.out hx139_0
                   replace hx139_1 := hx_ HB.out hx139_1
                   replace hx139_2 := hx_ HB.out hx139_2
                   replace hx139_3 := hx_ HB.out hx139_3
                   replace hx139_4 := hx_ HB.out hx139_4
                   replace hx139_5 := hx_ HB.out hx139_5
                   have HR139_4 := Aside0.mk hi139_4
                   have HC139_4 := Aside0.mk hl139_4
                   clear hi139_4 hl139_4
                   have HR139_5 := Aside0.mk hi139_5
                   have HC139_5 := Aside0.mk hl139_5
                   clear hi139_5 hl139_5
                   replace p139 := eq_true p139
                   replace q139 := eq_true q139
                   have ea_ := Option.some.inj (hx136_4.symm.trans hx139_4)
                   injection ea_ with ea_ en_ ec_
                   subst ea_
                   subst ec_
                   clear en_
                   have ea_ := Option.some.inj (hx136_5.symm.trans hx139_5)
                   injection ea_ with ea_ en_ ec_
                   subst ea_
                   subst ec_
                   clear en_
                   have p140 : 0 ≤ (x11_3 : Int) := of_decide_eq_true tq_2
                   have q140 : x11_3 < (((rd_T83 l0_2 x7_2).f5).length : Int) := of_decide_eq_true tq_2
                   obtain ⟨ad140, e140, hx140_0, hx140_1⟩ := at_T85 HR139_5.out x11_3 p140 q140
                   cases e140
                   replace hx140_0 := hx_ HB.out hx140_0
                   replace hx140_1 := hx_ HB.out hx140_1
                   replace p140 := eq_true p140
                   replace q140 := eq_true q140
                   go_wp2
                   repeat (go_quiet (fail); try go_wp2)
                   go_roundg kj11
                   case measure => have := HJ3.out; have := HK2.out; have := HK3.out; have := HJ11.out; omega
                   case rel => exact ⟨((rd_T85 ((rd_T83 l0_2 x7_2).f5) x11_3).f0), (true), (wrap64 (x11_3 + 1)), tq_5, tq_5, tq_5, H', ⟨by have := HJ3.out; have := HK2.out; have := HK3.out; have := HJ11.out; omega⟩, ⟨by (with_reducible repeat (first | apply Kd.R_alloc | apply Kd.R_drewN | apply Kd.R_drew)); exact HO_5.out⟩, ⟨by (with_reducible repeat (first | refine blk_drewN ?_ _ | refine blk_drew ?_ | refine blk_alloc ?_ _)); exact BK129.out⟩, ⟨by repeat (first | (with_reducible first | exact HB.out | apply below_alloc | apply pw_below_drewN | apply below_drew1 | refine below_set ?_ GE129.out) | exact HB.out)⟩⟩
                  ·rw [if_neg c27] at H
                   have c27b0 : (((rd_T85 ((rd_T83 l0_2 x7_2).f5) x11_3).f1).toList == (rdOf ByteArray.empty t130 x8_2).toList) = false := beq_eq_false_iff_ne.mpr c27
                   have c27b1 : (((rd_T85 ((rd_T83 l0_2 x7_2).f5) x11_3).f1).toList != (rdOf ByteArray.empty t130 x8_2).toList) = true := bne_iff_ne.mpr c27
                   have H' := Aside0.mk H
                   clear H
                   have hcz29_0 := bc_ BK129.out 0
                   have hcz29_1 := bc_ BK129.out 1
                   have hcz29_2 := bc_ BK129.out 2
                   have hfz29_0 := blk_frozen BK129.out 0
                   have hfz29_1 := blk_frozen BK129.out 1
                   have hfz29_2 := blk_frozen BK129.out 2
                   have p136 : 0 ≤ (x7_2 : Int) := of_decide_eq_true tq_2
                   have q136 : x7_2 < (l0_2.length : Int) := of_decide_eq_true tq_2
                   obtain ⟨ad136, A136_4, c136_4, A136_5, c136_5, e136, hx136_0, hx136_1, hx136_2, hx136_3, hx136_4, hx136_5, hl136_4, hi136_4, hl136_5, hi136_5⟩ := at_T83 HR0_2.out x7_2 p136 q136
                   cases e136
                   replace hx136_0 := hx_ HB.out hx136_0
                   replace hx136_1 := hx_ HB.out hx136_1
                   replace hx136_2 := hx_ HB.out hx136_2
                   replace hx136_3 := hx_ HB.out hx136_3
                   replace hx136_4 := hx_ HB.out hx136_4
                   replace hx136_5 := hx_ HB.out hx136_5
                   have HR136_4 := Aside0.mk hi136_4
                   have HC136_4 := Aside0.mk hl136_4
                   clear hi136_4 hl136_4
                   have HR136_5 := Aside0.mk hi136_5
                   have HC136_5 := Aside0.mk hl136_5
                   clear hi136_5 hl136_5
                   replace p136 := eq_true p136
                   replace q136 := eq_true q136
                   have p137 : 0 ≤ (x11_3 : Int) := of_decide_eq_true tq_2
                   have q137 : x11_3 < (((rd_T83 l0_2 x7_2).f5).length : Int) := of_decide_eq_true tq_2
                   obtain ⟨ad137, e137, hx137_0, hx137_1⟩ := at_T85 HR136_5.out x11_3 p137 q137
                   cases e137
                   replace hx137_0 := hx_ HB.out hx137_0
                   replace hx137_1 := hx_ HB.out hx137_1
                   replace p137 := eq_true p137
                   replace q137 := eq_true q137
                   have p138 : 0 ≤ (x8_2 : Int) := of_decide_eq_true tq_2
                   have q138 : x8_2 < (t130.length : Int) := of_decide_eq_true tq_2
                   obtain ⟨ad138, e138, hx138_0⟩ := Kd.at_string (Kd.R_reads' HO_5.out).2.2 x8_2 p138 q138
                   cases e138
                   replace p138 := eq_true p138
                   replace q138 := eq_true q138
                   go_wp2
                   repeat (go_quiet (fail); try go_wp2)
                   go_roundg kj11
                   case measure => have := HJ3.out; have := HK2.out; have := HK3.out; have := HJ11.out; omega
                   case rel => exact ⟨(x9_3), (x10_3), (wrap64 (x11_3 + 1)), tq_5, tq_5, tq_5, H', ⟨by have := HJ3.out; have := HK2.out; have := HK3.out; have := HJ11.out; omega⟩, ⟨by (with_reducible repeat (first | apply Kd.R_alloc | apply Kd.R_drewN | apply Kd.R_drew)); exact HO_5.out⟩, ⟨by (with_reducible repeat (first | refine blk_drewN ?_ _ | refine blk_drew ?_ | refine blk_alloc ?_ _)); exact BK129.out⟩, ⟨by repeat (first | (with_reducible first | exact HB.out | apply below_alloc | apply pw_below_drewN | apply below_drew1 | refine below_set ?_ GE129.out) | exact HB.out)⟩⟩
                 ·rw [if_neg c26] at H
                  exact absurd H (by simp)
                ·rw [if_neg c25] at H
                 exact absurd H (by simp)
               ·rw [if_neg c24] at H
                exact absurd H (by simp)
              ·rw [if_neg c23] at H
               exact absurd H (by simp)
             ·rw [if_neg c22] at H
              exact absurd H (by simp)
            ·rw [if_neg c21] at H
             exact absurd H (by simp)
           ·replace c20 := Bool.eq_false_iff.mpr c20
            subst c20
            have H1 : ((spec_l01In.f x9_3 0 (wrap64 ((l0_2.length : Int) - 1))).bind fun t141 => (if t141 = true then (spec_FindInode.l0 kj11 t130 x9_3 (wrap64 (x8_2 + 1)) a0_0 l0_1 l0_2) else (some (-1)))) = some r := by rw [if_neg (show ¬ (false = true) by decide)] at H; exact H
            clear H
            have H := H1
            clear H1
            replace H := Option.bind_eq_some_iff.mp H
            obtain ⟨t141, A300, H⟩ := H
            replace H : (if t141 = true then (spec_FindInode.l0 kj11 t130 x9_3 (wrap64 (x8_2 + 1)) a0_0 l0_1 l0_2) else (some (-1))) = some r := H
            have A30 := Aside0.mk A300
            clear A300
            by_cases c31 : t141 = true
            ·subst c31
             have H1 : (spec_FindInode.l0 kj11 t130 x9_3 (wrap64 (x8_2 + 1)) a0_0 l0_1 l0_2) = some r := by rw [if_pos rfl] at H; exact H
             clear H
             have H := H1
             clear H1
             have H' := Aside0.mk H
             clear H
             have hcz32_0 := bc_ BK129.out 0
             have hcz32_1 := bc_ BK129.out 1
             have hcz32_2 := bc_ BK129.out 2
             have hfz32_0 := blk_frozen BK129.out 0
             have hfz32_1 := blk_frozen BK129.out 1
             have hfz32_2 := blk_frozen BK129.out 2
             go_wp2_with (first | (go_at_call 47; (with_reducible refine (spec_l01In.calls x9_3 0 (wrap64 ((l0_2.length : Int) - 1)) true _ A30.out).mono ?_); rintro e w' ⟨rfl, ⟨nd, rfl⟩⟩; (try first | exact ⟨rfl, _, World.drewN_drewN _ _ _⟩ | exact ⟨rfl, _, Eq.trans (World.drewN_drewN _ _ _) (congrArg (World.drewN _) (Nat.add_assoc _ _ _))⟩)))
             repeat (go_quiet (first | (go_at_call 47; (with_reducible refine (spec_l01In.calls x9_3 0 (wrap64 ((l0_2.length : Int) - 1)) true _ A30.out).mono ?_); rintro e w' ⟨rfl, ⟨nd, rfl⟩⟩; (try first | exact ⟨rfl, _, World.drewN_drewN _ _ _⟩ | exact ⟨rfl, _, Eq.trans (World.drewN_drewN _ _ _) (congrArg (World.drewN _) (Nat.add_assoc _ _ _))⟩))); try go_wp2_with (first | (go_at_call 47; (with_reducible refine (spec_l01In.calls x9_3 0 (wrap64 ((l0_2.length : Int) - 1)) true _ A30.out).mono ?_); rintro e w' ⟨rfl, ⟨nd, rfl⟩⟩; (try first | exact ⟨rfl, _, World.drewN_drewN _ _ _⟩ | exact ⟨rfl, _, Eq.trans (World.drewN_drewN _ _ _) (congrArg (World.drewN _) (Nat.add_assoc _ _ _))⟩))))
             go_roundg kj11
             case measure => have := HJ3.out; have := HK2.out; have := HK3.out; have := HJ11.out; omega
             case rel => exact ⟨(x9_3), (wrap64 (x8_2 + 1)), tq_5, tq_5, H', ⟨by have := HJ3.out; have := HK2.out; have := HK3.out; have := HJ11.out; omega⟩, ⟨by (with_reducible repeat (first | apply Kd.R_alloc | apply Kd.R_drewN | apply Kd.R_drew)); exact HO_5.out⟩, ⟨by (with_reducible repeat (first | refine blk_drewN ?_ _ | refine blk_drew ?_ | refine blk_alloc ?_ _)); exact BK129.out⟩, ⟨by repeat (first | (with_reducible first | exact HB.out | apply below_alloc | apply pw_below_drewN | apply below_drew1 | refine below_set ?_ GE129.out) | exact HB.out)⟩⟩
            ·replace c31 := Bool.eq_false_iff.mpr c31
             subst c31
             have H1 : (some (-1)) = some r := by rw [if_neg (show ¬ (false = true) by decide)] at H; exact H
             clear H
             have H := H1
             clear H1
             obtain rfl := Option.some.inj H
             have hcz33_0 := bc_ BK129.out 0
             have hcz33_1 := bc_ BK129.out 1
             have hcz33_2 := bc_ BK129.out 2
             have hfz33_0 := blk_frozen BK129.out 0
             have hfz33_1 := blk_frozen BK129.out 1
             have hfz33_2 := blk_frozen BK129.out 2
             go_wp2_with (first | (go_at_call 47; (with_reducible refine (spec_l01In.calls x9_3 0 (wrap64 ((l0_2.length : Int) - 1)) false _ A30.out).mono ?_); rintro e w' ⟨rfl, ⟨nd, rfl⟩⟩; (try first | exact ⟨rfl, _, World.drewN_drewN _ _ _⟩ | exact ⟨rfl, _, Eq.trans (World.drewN_drewN _ _ _) (congrArg (World.drewN _) (Nat.add_assoc _ _ _))⟩)))
             repeat (go_quiet (first | (go_at_call 47; (with_reducible refine (spec_l01In.calls x9_3 0 (wrap64 ((l0_2.length : Int) - 1)) false _ A30.out).mono ?_); rintro e w' ⟨rfl, ⟨nd, rfl⟩⟩; (try first | exact ⟨rfl, _, World.drewN_drewN _ _ _⟩ | exact ⟨rfl, _, Eq.trans (World.drewN_drewN _ _ _) (congrArg (World.drewN _) (Nat.add_assoc _ _ _))⟩))); try go_wp2_with (first | (go_at_call 47; (with_reducible refine (spec_l01In.calls x9_3 0 (wrap64 ((l0_2.length : Int) - 1)) false _ A30.out).mono ?_); rintro e w' ⟨rfl, ⟨nd, rfl⟩⟩; (try first | exact ⟨rfl, _, World.drewN_drewN _ _ _⟩ | exact ⟨rfl, _, Eq.trans (World.drewN_drewN _ _ _) (congrArg (World.drewN _) (Nat.add_assoc _ _ _))⟩))))
             go_ret
             exact ⟨by first | rfl | (simp [errW_none, errW_some] <;> rfl) | (simp [*, errW_none, errW_some] <;> rfl), by repeat (first | (with_reducible first | exact HB.out | apply below_alloc | apply pw_below_drewN | apply below_drew1 | refine below_set ?_ GE129.out) | exact HB.out)⟩
      ·rw [if_neg c10] at H
       have c10b0 : decide (x8_2 < (t130.length : Int)) = false := decide_eq_false c10
       clear c10
       obtain rfl := Option.some.inj H
       obtain ⟨Ao34, co34, eo34⟩ := Kd.R_slice HO_5.out
       subst eo34
       go_wp2
       repeat (go_quiet (fail); try go_wp2)
       go_ret
       exact ⟨by first | rfl | (simp [errW_none, errW_some] <;> rfl) | (simp [*, errW_none, errW_some] <;> rfl), by repeat (first | (with_reducible first | exact HB.out | apply below_alloc | apply pw_below_drewN | apply below_drew1 | refine below_set ?_ GE129.out) | exact HB.out)⟩

end Go.Proofs.YtabgpbmaoelohaaDoor.PFnExactFindInode
