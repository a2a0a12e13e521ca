/- Contracts of Go functions, written by a program of ours over the print of the kit: each says that the call returns what the Lean function beside it computes. Conditions: as each theorem states them. -/
import Derived.Test.YtabgpbmaoelohaaDoorPkFnExactFindInode
import Derived.Test.YtabgpbmaoelohaaDoorPFnExactFindInodex0
import Derived.Test.YtabgpbmaoelohaaDoorPFnExactFindInodex5
namespace Go.Proofs.YtabgpbmaoelohaaDoor.PFnExactFindInode
open Go.RowKit Go.Proofs.YtabgpbmaoelohaaDoorW.PrintWords Go.Proofs.YtabgpbmaoelohaaDoorW.PrintLast Go.Proofs.YtabgpbmaoelohaaDoorW.PrintMore
attribute [local go_sem] max2_int min2_int max_two min_two max_three min_three max_four min_four   -- for this text's walks alone
set_option linter.unusedVariables false
set_option linter.unusedSimpArgs false

/-! ### impl_FindInode: function 35 -/
mutual
def impl_FindInode.j0 : Nat → List ByteArray → Bool → Int → List Int → List (S83) → Option (Int)
 | 0, _, _, _, _, _ => none
 | k + 1, x5, x24, x218000, x218001, x218002 => if x24 = true then (some (-1)) else (impl_FindInode.l0 k 0 x5 (x5.length : Int) 0 x218000 x218001 x218002)
def impl_FindInode.l0 : Nat → Int → List ByteArray → Int → Int → Int → List Int → List (S83) → Option (Int)
 | 0, _, _, _, _, _, _, _ => none
 | k + 1, x7, x25, x26, x27, x218000, x218001, x218002 => if x27 < x26 then (if 0 ≤ x27 then (if x27 < (x25.length : Int) then (if 0 ≤ x7 then (if x7 < (x218002.length : Int) then ((slices_IndexFunc_Entry_g71.f ((rd_T83 x218002 x7).f5) (rdOf ByteArray.empty x25 x27)).bind fun t226 => (if ((rd_T83 x218002 x7).f0) = 2 then (if t226 < 0 then (some (-1)) else (if 0 ≤ t226 then (if t226 < (((rd_T83 x218002 x7).f5).length : Int) then ((impl_within.f ((rd_T85 ((rd_T83 x218002 x7).f5) t226).f0) 0 (wrap64 ((x218002.length : Int) - 1))).bind fun t228 => (if t228 = true then (impl_FindInode.l0 k ((rd_T85 ((rd_T83 x218002 x7).f5) t226).f0) x25 x26 (wrap64 (x27 + 1)) x218000 x218001 x218002) else (some (-1)))) else (none)) else (none))) else (some (-1)))) else (none)) else (none)) else (none)) else (none)) else (some x7)
end
def impl_FindInode.f (k : Nat) (a0_0 : Int) (l0_1 : List Int) (l0_2 : List (S83)) (a1 : ByteArray) : Option (Int) := (impl_SplitPath.f k a1).bind fun bt218 => (if bt218.2 = 0 then (impl_FindInode.j0 k bt218.1 ((l0_2.length : Int) == 0) a0_0 l0_1 l0_2) else (impl_FindInode.j0 k bt218.1 true a0_0 l0_1 l0_2))
theorem impl_FindInode.mono_l : ∀ k, (∀ y0 y1 y2 y3 y4, LeO (impl_FindInode.j0 k y0 y1 y2 y3 y4) (impl_FindInode.j0 (k + 1) y0 y1 y2 y3 y4)) ∧ (∀ y0 y1 y2 y3 y4 y5 y6, LeO (impl_FindInode.l0 k y0 y1 y2 y3 y4 y5 y6) (impl_FindInode.l0 (k + 1) y0 y1 y2 y3 y4 y5 y6))
 | 0 => ⟨fun _ _ _ _ _ r h => by simp [impl_FindInode.j0] at h, fun _ _ _ _ _ _ _ r h => by simp [impl_FindInode.l0] at h⟩
 | k + 1 => by
  obtain ⟨ih0, ih1⟩ := impl_FindInode.mono_l k
  refine ⟨?_, ?_⟩
  ·intro y0 y1 y2 y3 y4
   unfold impl_FindInode.j0
   repeat' first
   | (with_reducible exact ih0 _ _ _ _ _)
   | (with_reducible exact ih1 _ _ _ _ _ _ _)
   | (with_reducible exact impl_SplitPath.mono _ _)
   | (with_reducible exact LeO.refl _)
   | (with_reducible exact LeO.none _)
   | (with_reducible refine LeO.ite ?_ ?_)
   | (with_reducible refine LeO.bind ?_ (fun _ => ?_))
   | exact ih0 _ _ _ _ _
   | exact ih1 _ _ _ _ _ _ _
   | exact impl_SplitPath.mono _ _
   | exact LeO.none _
   | refine LeO.ite ?_ ?_
   | refine LeO.bind ?_ (fun _ => ?_)
  ·intro y0 y1 y2 y3 y4 y5 y6
   unfold impl_FindInode.l0
   repeat' first
   | (with_reducible exact ih0 _ _ _ _ _)
   | (with_reducible exact ih1 _ _ _ _ _ _ _)
   | (with_reducible exact impl_SplitPath.mono _ _)
   | (with_reducible exact LeO.refl _)
   | (with_reducible exact LeO.none _)
   | (with_reducible refine LeO.ite ?_ ?_)
   | (with_reducible refine LeO.bind ?_ (fun _ => ?_))
   | exact ih0 _ _ _ _ _
   | exact ih1 _ _ _ _ _ _ _
   | exact impl_SplitPath.mono _ _
   | exact LeO.none _
   | refine LeO.ite ?_ ?_
   | refine LeO.bind ?_ (fun _ => ?_)
theorem impl_FindInode.mono : ∀ a0 a1 a2 a3 k, LeO (impl_FindInode.f k a0 a1 a2 a3) (impl_FindInode.f (k + 1) a0 a1 a2 a3) := by
 intro a0 a1 a2 a3 k
 obtain ⟨ih0, ih1⟩ := impl_FindInode.mono_l k
 unfold impl_FindInode.f
 repeat' first
   | (with_reducible exact ih0 _ _ _ _ _)
   | (with_reducible exact ih1 _ _ _ _ _ _ _)
   | (with_reducible exact impl_SplitPath.mono _ _)
   | (with_reducible exact LeO.refl _)
   | (with_reducible exact LeO.none _)
   | (with_reducible refine LeO.ite ?_ ?_)
   | (with_reducible refine LeO.bind ?_ (fun _ => ?_))
   | exact ih0 _ _ _ _ _
   | exact ih1 _ _ _ _ _ _ _
   | exact impl_SplitPath.mono _ _
   | exact LeO.none _
   | refine LeO.ite ?_ ?_
   | refine LeO.bind ?_ (fun _ => ?_)
def impl_FindInode.T10 : Bool × List (List Nat × List Nat) := (true, [([], []), ([0], [0]), ([1], [1]), ([2], [2]), ([3], [3]), ([4, 3], [3, 4]), ([3, 5], [3, 5]), ([6, 3], [6]), ([7], [7]), ([8, 7], [7, 8]), ([7], [7]), ([9, 10, 7], [7, 9, 10]), ([11, 7], [7, 11]), ([12, 7], [7, 12]), ([7], [7]), ([14, 7], [7, 14]), ([15, 7], [7, 15]), ([16, 7], [7, 16]), ([13, 17, 7, 7], [7, 13, 17]), ([18, 7], [7, 18]), ([7, 19], [7, 19])])
def impl_FindInode.B10 : List Nat := [0, 1, 3, 7, 15, 31, 63, 127, 255, 511, 255, 2047, 4095, 8191, 255, 16639, 49407, 114943, 262143, 524287, 1048575]
theorem impl_FindInode.tab10 : rtab .any (opsOf Tryd.f35 10) = impl_FindInode.T10 := by kernel_rfl
theorem impl_FindInode.bits10 : waitsOk impl_FindInode.T10.2 impl_FindInode.B10 = true := by kernel_rfl
set_option maxHeartbeats 8000000 in
set_option maxRecDepth 100000 in
theorem impl_FindInode.calls (k : Nat) (a0_0 : Int) (A0_1 : Option Addr) (c0_1 : Nat) (l0_1 : List Int) (A0_2 : Option Addr) (c0_2 : Nat) (l0_2 : List (S83)) (a1 : ByteArray) (r : Int) (w : World) (hD_ : DoorOk w) (hr0_1 : Kd.C (Kd.int .i64) w A0_1 l0_1.length l0_1) (hc0_1 : l0_1.length ≤ c0_1) (hr0_2 : Kd.C k83 w A0_2 l0_2.length l0_2) (hc0_2 : l0_2.length ≤ c0_2) (h : impl_FindInode.f k a0_0 l0_1 l0_2 a1 = some r) :
  Calls Tryd.prog 35 #[.agg #[.int .i64 a0_0, .slice A0_1 l0_1.length c0_1, .slice A0_2 l0_2.length c0_2], .string a1] w fun e w' => e = .returned (.int .i64 r) ∧ Below w.heap.size w w' := by
 have hu51 := Tryd.underlying51
 have hu83 := Tryd.underlying83
 have HR0_1 := Aside0.mk hr0_1
 have HC0_1 := Aside0.mk hc0_1
 clear hr0_1 hc0_1
 have HR0_2 := Aside0.mk hr0_2
 have HC0_2 := Aside0.mk hc0_2
 clear hr0_2 hc0_2
 have HD := Aside0.mk hD_
 clear hD_
 have HB := Aside0.mk (Below.refl w.heap.size w)
 have H : ((impl_SplitPath.f k a1).bind fun bt218 => (if bt218.2 = 0 then (impl_FindInode.j0 k bt218.1 ((l0_2.length : Int) == 0) a0_0 l0_1 l0_2) else (impl_FindInode.j0 k bt218.1 true a0_0 l0_1 l0_2))) = some r := h
 clear h
 replace H := Option.bind_eq_some_iff.mp H
 obtain ⟨⟨t218, t219⟩, A30, H⟩ := H
 replace H : (if t219 = 0 then (impl_FindInode.j0 k t218 ((l0_2.length : Int) == 0) a0_0 l0_1 l0_2) else (impl_FindInode.j0 k t218 true a0_0 l0_1 l0_2)) = some r := H
 have A3 := Aside0.mk A30
 clear A30
 have HC4 := Aside0.mk H
 clear H
 go_enter Tryd.func35, Tryd.ntmps35
 go_upto_region 2 with (first | ((with_reducible refine gate_dst (N := 2) rfl ?_); (try (refine gate_guard (by rfl) ?_; dsimp only)); refine box_event ?hg (N := 2) ?hd (cs := #[.int .i64 a0_0, .slice A0_1 l0_1.length c0_1, .slice A0_2 l0_2.length c0_2]) (t := 51) ?hr ?_; (case hd => rfl); (case hg => rfl); (case hr => first | (go_simp; done) | (go_simp; rfl)); intro gb217 hg w5 hbox hb; have n0_ := Aside0.mk (below_step tq_0 hb); have n1_ := Aside0.mk (hbox); have n2_ := Aside0.mk (gb_ hg tq_0); have n3_ := Aside0.mk (gb_ hg tq_0); clear HB; have HB := n0_; have BK217 := n1_; have GW217 := n2_; have GE217 := n3_; clear n0_ n1_ n2_ n3_; clear hb hbox hg) | ((with_reducible refine gate_callee (f := 18) rfl ?_); refine goesL_ (some 14) rfl rfl Tryd.func18 (by kernel_rfl) rfl #[.string a1] rfl tq_1 ?_; (with_reducible refine (impl_SplitPath.calls k a1 t218 t219 _ ?side1 A3.out).mono ?_); (case side1 => exact DoorOk.below HD.out tq_16); rintro e w6 ⟨v220, rfl, ho0, hb⟩; refine ⟨_, rfl, ?_⟩; have n0_ := Aside0.mk (Kd.R_lower ho0 (below_size tq_16)); have n1_ := Aside0.mk (blk_below tq_26 hb); have n2_ := Aside0.mk (below_step tq_16 hb); clear BK217 HB; have HO221 := n0_; have BK217 := n1_; have HB := n2_; clear n0_ n1_ n2_; (try clear hb); (try clear hb2); (try clear hk); (try clear hi); (try clear ho0)))
 (try simp only [Act.put, List.setIfInBounds_toArray, List.set_cons_zero, List.set_cons_succ])
 go_cut [24] (fun v24 wc => ∃ (kq : Nat) (x24_3 : Bool), v24 = .bool x24_3 ∧ Aside0 (impl_FindInode.j0 kq t218 x24_3 a0_0 l0_1 l0_2 = some r) ∧ Aside0 (kq ≤ k) ∧ Aside0 (Kd.R Kd.string 9 wc w.heap.size (fun _ => True) v220 t218) ∧ Aside0 (wc.heap[gb217]? = some (.cells #[.int .i64 a0_0, (.slice A0_1 l0_1.length c0_1), (.slice A0_2 l0_2.length c0_2)] 51 (0, 0))) ∧ Aside0 (Below w.heap.size w wc))
 case first =>
  have H := HC4.out
  clear HC4
  by_cases c7 : t219 = 0
  ·rw [if_pos c7] at H
   have c7b0 : (t219 == 0) = true := beq_iff_eq.mpr c7
   have c7b1 : (t219 != 0) = false := bne_eq_false_iff_eq.mpr c7
   clear c7
   (first | rw [c7b0] | (simp only [i64_w, i32_w]; rw [c7b0]) | skip)
   have H' := Aside0.mk H
   clear H
   have hcz8_0 := bc_ BK217.out 0
   have hcz8_1 := bc_ BK217.out 1
   have hcz8_2 := bc_ BK217.out 2
   have hfz8_0 := blk_frozen BK217.out 0
   have hfz8_1 := blk_frozen BK217.out 1
   have hfz8_2 := blk_frozen BK217.out 2
   go_wp2
   go_meet
   case rel => exact ⟨_, (((l0_2.length : Int) == 0)), tq_5, H', ⟨by first | omega | exact Nat.le_refl _⟩, ⟨by (with_reducible repeat (first | apply Kd.R_alloc | apply Kd.R_drewN | apply Kd.R_drew)); exact HO221.out⟩, ⟨by (with_reducible repeat (first | refine blk_drewN ?_ _ | refine blk_drew ?_ | refine blk_alloc ?_ _)); exact BK217.out⟩, ⟨by repeat (first | (with_reducible first | exact HB.out | apply below_alloc | apply pw_below_drewN | apply below_drew1 | refine below_set ?_ GE217.out) | exact HB.out)⟩⟩
  ·rw [if_neg c7] at H
   have c7b0 : (t219 == 0) = false := beq_eq_false_iff_ne.mpr c7
   have c7b1 : (t219 != 0) = true := bne_iff_ne.mpr c7
   (first | rw [c7b0] | (simp only [i64_w, i32_w]; rw [c7b0]) | skip)
   have H' := Aside0.mk H
   clear H
   go_wp2
   go_meet
   case rel => exact ⟨_, (true), tq_5, H', ⟨by first | omega | exact Nat.le_refl _⟩, ⟨by (with_reducible repeat (first | apply Kd.R_alloc | apply Kd.R_drewN | apply Kd.R_drew)); exact HO221.out⟩, ⟨by (with_reducible repeat (first | refine blk_drewN ?_ _ | refine blk_drew ?_ | refine blk_alloc ?_ _)); exact BK217.out⟩, ⟨by repeat (first | (with_reducible first | exact HB.out | apply below_alloc | apply pw_below_drewN | apply below_drew1 | refine below_set ?_ GE217.out) | exact HB.out)⟩⟩
 case rest =>
  clear HC4
  try clear c1
  try clear p2
  try clear c3
  try clear c7
  try clear c7b0
  try clear c7b1
  try clear hcz8_0
  try clear hcz8_1
  try clear hcz8_2
  try clear hfz8_0
  try clear hfz8_1
  try clear hfz8_2
  obtain ⟨kq, x24_3, rfl, HA, HJ3, HO_5, BK217, HB⟩ := hcut
  cases kq with
  | zero => exact absurd HA.out (by simp [impl_FindInode.j0])
  | succ kj3 =>
   have H := HA.out
   clear HA
   simp only [impl_FindInode.j0] at H
   by_cases c9 : x24_3 = true
   ·subst c9
    have H1 : (some (-1)) = some r := by rw [if_pos rfl] at H; exact H
    clear H
    have H := H1
    clear H1
    obtain rfl := Option.some.inj H
    go_wp2
    go_ret
    exact ⟨by first | rfl | (simp [errW_none, errW_some] <;> rfl) | (simp [*, errW_none, errW_some] <;> rfl), by repeat (first | (with_reducible first | exact HB.out | apply below_alloc | apply pw_below_drewN | apply below_drew1 | refine below_set ?_ GE217.out) | exact HB.out)⟩
   ·replace c9 := Bool.eq_false_iff.mpr c9
    subst c9
    have H1 : (impl_FindInode.l0 kj3 0 t218 (t218.length : Int) 0 a0_0 l0_1 l0_2) = some r := by rw [if_neg (show ¬ (false = true) by decide)] at H; exact H
    clear H
    have H := H1
    clear H1
    have H' := Aside0.mk H
    clear H
    obtain ⟨Ao10, co10, eo10⟩ := Kd.R_slice HO_5.out
    subst eo10
    go_wp2
    go_loopg [7, 27] kj3 (fun kq v7 v27 w' => ∃ (x7_2 : Int) (x27_2 : Int), v7 = .int .i64 x7_2 ∧ v27 = .int .i64 x27_2 ∧ Aside0 (impl_FindInode.l0 kq x7_2 t218 (t218.length : Int) x27_2 a0_0 l0_1 l0_2 = some r) ∧ Aside0 (kq ≤ kj3) ∧ Aside0 (Kd.R Kd.string 9 w' w.heap.size (fun _ => True) (.slice Ao10 t218.length co10) t218) ∧ Aside0 (w'.heap[gb217]? = some (.cells #[.int .i64 a0_0, (.slice A0_1 l0_1.length c0_1), (.slice A0_2 l0_2.length c0_2)] 51 (0, 0))) ∧ Aside0 (Below w.heap.size w w'))
    case atStart => exact ⟨(0), (0), tq_5, tq_5, H', ⟨Nat.le_refl _⟩, ⟨by (with_reducible repeat (first | apply Kd.R_alloc | apply Kd.R_drewN | apply Kd.R_drew)); exact HO_5.out⟩, ⟨by (with_reducible repeat (first | refine blk_drewN ?_ _ | refine blk_drew ?_ | refine blk_alloc ?_ _)); exact BK217.out⟩, ⟨by repeat (first | (with_reducible first | exact HB.out | apply below_alloc | apply pw_below_drewN | apply below_drew1 | refine below_set ?_ GE217.out) | exact HB.out)⟩⟩
    case round =>
     clear H'
     try clear c1
     try clear p2
     try clear c3
     try clear c7
     try clear c7b0
     try clear c7b1
     try clear c9
     try clear hcz8_0
     try clear hcz8_1
     try clear hcz8_2
     try clear hfz8_0
     try clear hfz8_1
     try clear hfz8_2
     try clear p2
     obtain ⟨x7_2, x27_2, rfl, rfl, HA, HK2, HO_25, BK217, HB⟩ := hrel
     cases gk with
     | zero => exact absurd HA.out (by simp [impl_FindInode.l0])
     | succ k2 =>
      have H := HA.out
      clear HA
      simp only [impl_FindInode.l0] at H
      by_cases c11 : x27_2 < (t218.length : Int)
      ·rw [if_pos c11] at H
       have c11b0 : decide (x27_2 < (t218.length : Int)) = true := decide_eq_true c11
       clear c11
       by_cases c12 : 0 ≤ x27_2
       ·rw [if_pos c12] at H
        have c12b0 : decide (0 ≤ x27_2) = true := decide_eq_true c12
        clear c12
        by_cases c13 : x27_2 < (t218.length : Int)
        ·rw [if_pos c13] at H
         have c13b0 : decide (x27_2 < (t218.length : Int)) = true := decide_eq_true c13
         clear c13
         by_cases c14 : 0 ≤ x7_2
         ·rw [if_pos c14] at H
          have c14b0 : decide (0 ≤ x7_2) = true := decide_eq_true c14
          clear c14
          by_cases c15 : x7_2 < (l0_2.length : Int)
          ·rw [if_pos c15] at H
           have c15b0 : decide (x7_2 < (l0_2.length : Int)) = true := decide_eq_true c15
           clear c15
           replace H := Option.bind_eq_some_iff.mp H
           obtain ⟨t226, A160, H⟩ := H
           replace H : (if ((rd_T83 l0_2 x7_2).f0) = 2 then (if t226 < 0 then (some (-1)) else (if 0 ≤ t226 then (if t226 < (((rd_T83 l0_2 x7_2).f5).length : Int) then ((impl_within.f ((rd_T85 ((rd_T83 l0_2 x7_2).f5) t226).f0) 0 (wrap64 ((l0_2.length : Int) - 1))).bind fun t228 => (if t228 = true then (impl_FindInode.l0 k2 ((rd_T85 ((rd_T83 l0_2 x7_2).f5) t226).f0) t218 (t218.length : Int) (wrap64 (x27_2 + 1)) a0_0 l0_1 l0_2) else (some (-1)))) else (none)) else (none))) else (some (-1))) = some r := H
           have A16 := Aside0.mk A160
           clear A160
           by_cases c17 : ((rd_T83 l0_2 x7_2).f0) = 2
           ·rw [if_pos c17] at H
            have c17b0 : (((rd_T83 l0_2 x7_2).f0) == 2) = true := beq_iff_eq.mpr c17
            have c17b1 : (((rd_T83 l0_2 x7_2).f0) != 2) = false := bne_eq_false_iff_eq.mpr c17
            clear c17
            by_cases c18 : t226 < 0
            ·rw [if_pos c18] at H
             have c18b0 : decide (t226 < 0) = true := decide_eq_true c18
             clear c18
             obtain rfl := Option.some.inj H
             have p222 : 0 ≤ (x27_2 : Int) := of_decide_eq_true tq_2
             have q222 : x27_2 < (t218.length : Int) := of_decide_eq_true tq_2
             obtain ⟨ad222, e222, hx222_0⟩ := Kd.at_string (Kd.R_reads' HO_25.out).2.2 x27_2 p222 q222
             cases e222
             replace p222 := eq_true p222
             replace q222 := eq_true q222
             try go_wp2_with (first | ((with_reducible refine gate_dst (N := 9) rfl ?_); (try (refine gate_guard (by rfl) ?_; dsimp only)); refine box_event ?hg (N := 9) ?hd (cs := #[.string (⟨#[]⟩ : ByteArray)]) (t := 9) ?hr ?_; (case hd => rfl); (case hg => rfl); (case hr => first | (go_simp; done) | (go_simp; rfl)); intro gb223 hg w19 hbox hb; have n0_ := Aside0.mk (Kd.R_below (Kd.R_elderB tq_68 gb223 (Nat.le_of_eq hg.symm)) hb); have n1_ := Aside0.mk (blk_below tq_26 hb); have n2_ := Aside0.mk (below_step tq_16 hb); have n3_ := Aside0.mk (hbox); have n4_ := Aside0.mk (gb_ hg tq_16); have n5_ := Aside0.mk (gb_ hg tq_16); have n6_ := Aside0.mk (ltne_ hg (blk_lt tq_26)); have n7_ := Aside0.mk (gtne_ hg (blk_lt tq_26)); clear HO_25 BK217 HB; have HO_25 := n0_; have BK217 := n1_; have HB := n2_; have BK223 := n3_; have GW223 := n4_; have GE223 := n5_; have NB217_223 := n6_; have NB223_217 := n7_; clear n0_ n1_ n2_ n3_ n4_ n5_ n6_ n7_; clear hb hbox hg; have hnb20 := NB223_217.out; have hnc20 := NB217_223.out; have hcz21_0 := bc_ BK223.out 0; have hfz21_0 := blk_frozen BK223.out 0; have hcz22_0 := bc_ BK217.out 0; have hcz22_1 := bc_ BK217.out 1; have hcz22_2 := bc_ BK217.out 2; have hfz22_0 := blk_frozen BK217.out 0; have hfz22_1 := blk_frozen BK217.out 1; have hfz22_2 := blk_frozen BK217.out 2; have p224 : 0 ≤ (x7_2 : Int) := of_decide_eq_true tq_2; have q224 : x7_2 < (l0_2.length : Int) := of_decide_eq_true tq_2; obtain ⟨ad224, A224_4, c224_4, A224_5, c224_5, e224, hx224_0, hx224_1, hx224_2, hx224_3, hx224_4, hx224_5, hl224_4, hi224_4, hl224_5, hi224_5⟩ := at_T83 HR0_2.out x7_2 p224 q224; cases e224; have hn224_0 : ad224.block ≠ gb223 := Nat.ne_of_lt (Nat.lt_of_lt_of_le tq_71 GW223.out); replace hx224_0 := hx_ HB.out hx224_0; replace hx224_1 := hx_ HB.out hx224_1; replace hx224_2 := hx_ HB.out hx224_2; replace hx224_3 := hx_ HB.out hx224_3; replace hx224_4 := hx_ HB.out hx224_4; replace hx224_5 := hx_ HB.out hx224_5; have HR224_4 := Aside0.mk hi224_4; have HC224_4 := Aside0.mk hl224_4; clear hi224_4 hl224_4; have HR224_5 := Aside0.mk hi224_5; have HC224_5 := Aside0.mk hl224_5; clear hi224_5 hl224_5; replace hx224_0 := (cell_far (p := ⟨gb223, 0, none⟩) tq_14 (.string (rdOf ByteArray.empty t218 x27_2))).trans hx224_0; replace hx224_1 := (cell_far (p := ⟨gb223, 0, none⟩) tq_14 (.string (rdOf ByteArray.empty t218 x27_2))).trans hx224_1; replace hx224_2 := (cell_far (p := ⟨gb223, 0, none⟩) tq_14 (.string (rdOf ByteArray.empty t218 x27_2))).trans hx224_2; replace hx224_3 := (cell_far (p := ⟨gb223, 0, none⟩) tq_14 (.string (rdOf ByteArray.empty t218 x27_2))).trans hx224_3; replace hx224_4 := (cell_far (p := ⟨gb223, 0, none⟩) tq_14 (.string (rdOf ByteArray.empty t218 x27_2))).trans hx224_4; replace hx224_5 := (cell_far (p := ⟨gb223, 0, none⟩) tq_14 (.string (rdOf ByteArray.empty t218 x27_2))).trans hx224_5; clear hn224_0; replace p224 := eq_true p224; replace q224 := eq_true q224) | ((with_reducible refine gate_dst (N := 10) rfl ?_); (try (refine gate_guard (by rfl) ?_; dsimp only)); refine box_event ?hg (N := 10) ?hd (cs := #[.int .i64 0, .int .i64 0, .int .i64 0, .string (⟨#[]⟩ : ByteArray), .slice none 0 0, .slice none 0 0]) (t := 83) ?hr ?_; (case hd => rfl); (case hg => rfl); (case hr => first | (go_simp; done) | (go_simp; rfl)); intro gb225 hg w23 hbox hb; have n0_ := Aside0.mk (Kd.R_below tq_34 hb); have n1_ := Aside0.mk (blk_below (g := gb217) (o := .cells #[.int .i64 a0_0, .slice A0_1 l0_1.length c0_1, .slice (some ad224) l0_2.length c0_2] 51 (0, 0)) tq_12 hb); have n2_ := Aside0.mk (blk_below (g := gb223) (o := .cells #[.string (rdOf ByteArray.empty t218 x27_2)] 9 (0, 0)) tq_7 hb); have n3_ := Aside0.mk (below_step tq_18 hb); have n4_ := Aside0.mk (hbox); have n5_ := Aside0.mk (gb_ hg tq_18); have n6_ := Aside0.mk (gb_ hg tq_18); have n7_ := Aside0.mk (ltne_ hg (blk_lt (g := gb217) (o := .cells #[.int .i64 a0_0, .slice A0_1 l0_1.length c0_1, .slice (some ad224) l0_2.length c0_2] 51 (0, 0)) tq_12)); have n8_ := Aside0.mk (gtne_ hg (blk_lt (g := gb217) (o := .cells #[.int .i64 a0_0, .slice A0_1 l0_1.length c0_1, .slice (some ad224) l0_2.length c0_2] 51 (0, 0)) tq_12)); have n9_ := Aside0.mk (ltne_ hg (blk_lt (g := gb223) (o := .cells #[.string (rdOf ByteArray.empty t218 x27_2)] 9 (0, 0)) tq_7)); have n10_ := Aside0.mk (gtne_ hg (blk_lt (g := gb223) (o := .cells #[.string (rdOf ByteArray.empty t218 x27_2)] 9 (0, 0)) tq_7)); clear HO_25 BK217 BK223 HB; have HO_25 := n0_; have BK217 := n1_; have BK223 := n2_; have HB := n3_; have BK225 := n4_; have GW225 := n5_; have GE225 := n6_; have NB217_225 := n7_; have NB225_217 := n8_; have NB223_225 := n9_; have NB225_223 := n10_; clear n0_ n1_ n2_ n3_ n4_ n5_ n6_ n7_ n8_ n9_ n10_; clear hb hbox hg; have hnb24 := NB225_217.out; have hnc24 := NB217_225.out; have hnb25 := NB225_223.out; have hnc25 := NB223_225.out; have hcz26_0 := bc_ BK225.out 0; have hcz26_1 := bc_ BK225.out 1; have hcz26_2 := bc_ BK225.out 2; have hcz26_3 := bc_ BK225.out 3; have hcz26_4 := bc_ BK225.out 4; have hcz26_5 := bc_ BK225.out 5; have hfz26_0 := blk_frozen BK225.out 0; have hfz26_1 := blk_frozen BK225.out 1; have hfz26_2 := blk_frozen BK225.out 2; have hfz26_3 := blk_frozen BK225.out 3; have hfz26_4 := blk_frozen BK225.out 4; have hfz26_5 := blk_frozen BK225.out 5) | ((with_reducible refine gate_callee (f := 70) rfl ?_); refine goesL_ (some 39) rfl rfl Tryd.func70 (by kernel_rfl) rfl #[.slice A224_5 ((rd_T83 l0_2 x7_2).f5).length c224_5, .func (.func 71) #[] #[.pointer (some ⟨gb223, 0, none⟩)]] rfl tq_1 ?_; (with_reducible refine (slices_IndexFunc_Entry_g71.calls _ _ ((rd_T83 l0_2 x7_2).f5) gb223 (rdOf ByteArray.empty t218 x27_2) t226 _ ?side1 ?side2 ?side3 A16.out).mono ?_); (case side1 => exact Kd.C_below HR224_5.out tq_24); (case side2 => exact HC224_5.out); (case side3 => (with_reducible repeat (first | refine blk_drewN ?_ _ | refine blk_drew ?_ | refine blk_alloc ?_ _)); refine blk_far ?_ NB223_225.out _; (with_reducible repeat (first | refine blk_drewN ?_ _ | refine blk_drew ?_ | refine blk_alloc ?_ _)); refine blk_far ?_ NB223_225.out _; (with_reducible repeat (first | refine blk_drewN ?_ _ | refine blk_drew ?_ | refine blk_alloc ?_ _)); refine blk_far ?_ NB223_225.out _; (with_reducible repeat (first | refine blk_drewN ?_ _ | refine blk_drew ?_ | refine blk_alloc ?_ _)); refine blk_far ?_ NB223_225.out _; (with_reducible repeat (first | refine blk_drewN ?_ _ | refine blk_drew ?_ | refine blk_alloc ?_ _)); refine blk_far ?_ NB223_225.out _; (with_reducible repeat (first | refine blk_drewN ?_ _ | refine blk_drew ?_ | refine blk_alloc ?_ _)); refine blk_far ?_ NB223_225.out _; (with_reducible repeat (first | refine blk_drewN ?_ _ | refine blk_drew ?_ | refine blk_alloc ?_ _)); exact BK223.out); rintro e w27 ⟨rfl, hb⟩; refine ⟨_, rfl, ?_⟩; have n0_ := Aside0.mk (Kd.R_below tq_17 hb); have n1_ := Aside0.mk (blk_below (g := gb217) (o := .cells #[.int .i64 a0_0, .slice A0_1 l0_1.length c0_1, .slice (some ad224) l0_2.length c0_2] 51 (0, 0)) tq_11 hb); have n2_ := Aside0.mk (blk_below (g := gb223) (o := .cells #[.string (rdOf ByteArray.empty t218 x27_2)] 9 (0, 0)) tq_10 hb); have n3_ := Aside0.mk (blk_below (g := gb225) (o := .cells #[.int .i64 ((rd_T83 l0_2 x7_2).f0), .int .i64 ((rd_T83 l0_2 x7_2).f1), .int .i64 ((rd_T83 l0_2 x7_2).f2), .string ((rd_T83 l0_2 x7_2).f3), .slice A224_4 ((rd_T83 l0_2 x7_2).f4).length c224_4, .slice A224_5 ((rd_T83 l0_2 x7_2).f5).length c224_5] 83 (0, 0)) tq_3 hb); have n4_ := Aside0.mk (below_step tq_24 hb); clear HO_25 BK217 BK223 BK225 HB; have HO_25 := n0_; have BK217 := n1_; have BK223 := n2_; have BK225 := n3_; have HB := n4_; clear n0_ n1_ n2_ n3_ n4_; (try clear hb); (try clear hb2); (try clear hk); (try clear hi)))
             have n0_ := Aside0.mk (Kd.R_drew HO_25.out)
             have n1_ := Aside0.mk (blk_drew BK217.out)
             have n2_ := Aside0.mk (blk_drew BK223.out)
             have n3_ := Aside0.mk (blk_drew BK225.out)
             have n4_ := Aside0.mk (below_drew1 HB.out)
             clear HO_25 BK217 BK223 BK225 HB
             have HO_25 := n0_
             have BK217 := n1_
             have BK223 := n2_
             have BK225 := n3_
             have HB := n4_
             clear n0_ n1_ n2_ n3_ n4_
             refine start_ (n := 21) (S := fun w' => w'.cell? ⟨gb225, 0, none⟩ = some (.int .i64 ((rd_T83 l0_2 x7_2).f0)) ∧ w'.cell? ⟨gb225, 1, none⟩ = some (.int .i64 ((rd_T83 l0_2 x7_2).f1)) ∧ w'.cell? ⟨gb225, 2, none⟩ = some (.int .i64 ((rd_T83 l0_2 x7_2).f2)) ∧ w'.cell? ⟨gb225, 3, none⟩ = some (.string ((rd_T83 l0_2 x7_2).f3)) ∧ w'.cell? ⟨gb225, 4, none⟩ = some (.slice A224_4 ((rd_T83 l0_2 x7_2).f4).length c224_4) ∧ w'.cell? ⟨gb225, 5, none⟩ = some (.slice A224_5 ((rd_T83 l0_2 x7_2).f5).length c224_5)) (ds := []) bq_11 (by kernel_rfl) rfl rfl ⟨(blk_cell BK225.out 0).trans rfl, (blk_cell BK225.out 1).trans rfl, (blk_cell BK225.out 2).trans rfl, (blk_cell BK225.out 3).trans rfl, (blk_cell BK225.out 4).trans rfl, (blk_cell BK225.out 5).trans rfl⟩ (fun hHeld => ?_); refine with_tabW impl_FindInode.tab10 impl_FindInode.bits10 (fun HT_ HW_ => ?_)
             generalize w27.drew = w28 at HO_25 BK217 BK223 BK225 HB hHeld ⊢
             refine yq_ (i := 0) (N := some 40) bq_12 (any_of HT_.out (by kernel_rfl)) ?_
             refine take_ (i := 1) (N := some 41) (v := ?_) (a' := ?_) bq_13 rfl rfl (take_ofW HT_.out HW_.out (by kernel_rfl)) (fun _ _ _ h => h) (Or.inl ⟨by rfl, ?_⟩) hHeld ?_ ?_
             rotate_left
             ·rintro w' ⟨s0, s1, s2, s3, s4, s5⟩
              go_simp
              with_reducible rfl
             rotate_left
             ·simp only [Act.put, List.setIfInBounds_toArray, List.set_cons_zero, List.set_cons_succ, i64_w, i32_w]
              rfl
             refine yq_ (i := 2) (N := some 42) bq_14 (any_of HT_.out (by kernel_rfl)) ?_
             refine yq_ (i := 3) (N := some 43) bq_15 (any_of HT_.out (by kernel_rfl)) ?_
             refine yq_ (i := 4) (N := some 44) bq_16 (any_of HT_.out (by kernel_rfl)) ?_
             refine yq_ (i := 5) (N := some 45) bq_17 (any_of HT_.out (by kernel_rfl)) ?_
             refine yq_ (i := 6) (N := some 46) bq_18 (any_of HT_.out (by kernel_rfl)) ?_
             refine yq_ (i := 7) (N := some 47) bq_19 (any_of HT_.out (by kernel_rfl)) ?_
             refine uq_ (i := 8) (N := some 48) bq_20 (any_of HT_.out (by kernel_rfl)) ?_
             refine uq_ (i := 9) (N := some 49) bq_28 (any_of HT_.out (by kernel_rfl)) ?_
             refine uq_ (i := 10) (N := some 50) bq_29 (any_of HT_.out (by kernel_rfl)) ?_
             refine uq_ (i := 11) (N := some 51) bq_30 (any_of HT_.out (by kernel_rfl)) ?_
             refine uq_ (i := 12) (N := some 52) bq_31 (any_of HT_.out (by kernel_rfl)) ?_
             refine uq_ (i := 13) (N := some 53) bq_32 (any_of HT_.out (by kernel_rfl)) ?_
             refine uq_ (i := 14) (N := some 54) bq_21 (any_of HT_.out (by kernel_rfl)) ?_
             refine uq_ (i := 15) (N := some 55) bq_22 (any_of HT_.out (by kernel_rfl)) ?_
             refine uq_ (i := 16) (N := some 56) bq_23 (any_of HT_.out (by kernel_rfl)) ?_
             refine uq_ (i := 17) (N := some 57) bq_24 (any_of HT_.out (by kernel_rfl)) ?_
             refine uq_ (i := 18) (N := some 58) bq_25 (any_of HT_.out (by kernel_rfl)) ?_
             refine uq_ (i := 19) (N := some 59) bq_26 (any_of HT_.out (by kernel_rfl)) ?_
             refine yq_ (i := 20) (N := some 60) bq_27 (any_of HT_.out (by kernel_rfl)) ?_
             refine done_ (done_of HT_.out (by kernel_rfl)) ?_
             try go_wp2
             go_ret
             exact ⟨by first | rfl | (simp [errW_none, errW_some] <;> rfl) | (simp [*, errW_none, errW_some] <;> rfl), by repeat (first | (with_reducible first | exact HB.out | apply below_alloc | apply pw_below_drewN | apply below_drew1 | refine below_set ?_ GE217.out | refine below_set ?_ GE223.out | refine below_set ?_ GE225.out) | exact HB.out)⟩
            ·rw [if_neg c18] at H
             have c18b0 : decide (t226 < 0) = false := decide_eq_false c18
             clear c18
             by_cases c29 : 0 ≤ t226
             ·rw [if_pos c29] at H
              have c29b0 : decide (0 ≤ t226) = true := decide_eq_true c29
              clear c29
              by_cases c30 : t226 < (((rd_T83 l0_2 x7_2).f5).length : Int)
              ·rw [if_pos c30] at H
               have c30b0 : decide (t226 < (((rd_T83 l0_2 x7_2).f5).length : Int)) = true := decide_eq_true c30
               clear c30
               replace H := Option.bind_eq_some_iff.mp H
               obtain ⟨t228, A310, H⟩ := H
               replace H : (if t228 = true then (impl_FindInode.l0 k2 ((rd_T85 ((rd_T83 l0_2 x7_2).f5) t226).f0) t218 (t218.length : Int) (wrap64 (x27_2 + 1)) a0_0 l0_1 l0_2) else (some (-1))) = some r := H
               have A31 := Aside0.mk A310
               clear A310
               by_cases c32 : t228 = true
               ·subst c32
                have H1 : (impl_FindInode.l0 k2 ((rd_T85 ((rd_T83 l0_2 x7_2).f5) t226).f0) t218 (t218.length : Int) (wrap64 (x27_2 + 1)) a0_0 l0_1 l0_2) = some r := by rw [if_pos rfl] at H; exact H
                clear H
                have H := H1
                clear H1
                have H' := Aside0.mk H
                clear H
                have p222 : 0 ≤ (x27_2 : Int) := of_decide_eq_true tq_2
                have q222 : x27_2 < (t218.length : Int) := of_decide_eq_true tq_2
                obtain ⟨ad222, e222, hx222_0⟩ := Kd.at_string (Kd.R_reads' HO_25.out).2.2 x27_2 p222 q222
                cases e222
                replace p222 := eq_true p222
                replace q222 := eq_true q222
                try go_wp2_with (first | ((with_reducible refine gate_dst (N := 9) rfl ?_); (try (refine gate_guard (by rfl) ?_; dsimp only)); refine box_event ?hg (N := 9) ?hd (cs := #[.string (⟨#[]⟩ : ByteArray)]) (t := 9) ?hr ?_; (case hd => rfl); (case hg => rfl); (case hr => first | (go_simp; done) | (go_simp; rfl)); intro gb223 hg w33 hbox hb; have n0_ := Aside0.mk (Kd.R_below (Kd.R_elderB tq_68 gb223 (Nat.le_of_eq hg.symm)) hb); have n1_ := Aside0.mk (blk_below tq_26 hb); have n2_ := Aside0.mk (below_step tq_16 hb); have n3_ := Aside0.mk (hbox); have n4_ := Aside0.mk (gb_ hg tq_16); have n5_ := Aside0.mk (gb_ hg tq_16); have n6_ := Aside0.mk (ltne_ hg (blk_lt tq_26)); have n7_ := Aside0.mk (gtne_ hg (blk_lt tq_26)); clear HO_25 BK217 HB; have HO_25 := n0_; have BK217 := n1_; have HB := n2_; have BK223 := n3_; have GW223 := n4_; have GE223 := n5_; have NB217_223 := n6_; have NB223_217 := n7_; clear n0_ n1_ n2_ n3_ n4_ n5_ n6_ n7_; clear hb hbox hg; have hnb34 := NB223_217.out; have hnc34 := NB217_223.out; have hcz35_0 := bc_ BK223.out 0; have hfz35_0 := blk_frozen BK223.out 0; have hcz36_0 := bc_ BK217.out 0; have hcz36_1 := bc_ BK217.out 1; have hcz36_2 := bc_ BK217.out 2; have hfz36_0 := blk_frozen BK217.out 0; have hfz36_1 := blk_frozen BK217.out 1; have hfz36_2 := blk_frozen BK217.out 2; have p224 : 0 ≤ (x7_2 : Int) := of_decide_eq_true tq_2; have q224 : x7_2 < (l0_2.length : Int) := of_decide_eq_true tq_2; obtain ⟨ad224, A224_4, c224_4, A224_5, c224_5, e224, hx224_0, hx224_1, hx224_2, hx224_3, hx224_4, hx224_5, hl224_4, hi224_4, hl224_5, hi224_5⟩ := at_T83 HR0_2.out x7_2 p224 q224; cases e224; have hn224_0 : ad224.block ≠ gb223 := Nat.ne_of_lt (Nat.lt_of_lt_of_le tq_71 GW223.out); replace hx224_0 := hx_ HB.out hx224_0; replace hx224_1 := hx_ HB.out hx224_1; replace hx224_2 := hx_ HB.out hx224_2; replace hx224_3 := hx_ HB.out hx224_3; replace hx224_4 := hx_ HB.out hx224_4; replace hx224_5 := hx_ HB.out hx224_5; have HR224_4 := Aside0.mk hi224_4; have HC224_4 := Aside0.mk hl224_4; clear hi224_4 hl224_4; have HR224_5 := Aside0.mk hi224_5; have HC224_5 := Aside0.mk hl224_5; clear hi224_5 hl224_5; replace hx224_0 := (cell_far (p := ⟨gb223, 0, none⟩) tq_14 (.string (rdOf ByteArray.empty t218 x27_2))).trans hx224_0; replace hx224_1 := (cell_far (p := ⟨gb223, 0, none⟩) tq_14 (.string (rdOf ByteArray.empty t218 x27_2))).trans hx224_1; replace hx224_2 := (cell_far (p := ⟨gb223, 0, none⟩) tq_14 (.string (rdOf ByteArray.empty t218 x27_2))).trans hx224_2; replace hx224_3 := (cell_far (p := ⟨gb223, 0, none⟩) tq_14 (.string (rdOf ByteArray.empty t218 x27_2))).trans hx224_3; replace hx224_4 := (cell_far (p := ⟨gb223, 0, none⟩) tq_14 (.string (rdOf ByteArray.empty t218 x27_2))).trans hx224_4; replace hx224_5 := (cell_far (p := ⟨gb223, 0, none⟩) tq_14 (.string (rdOf ByteArray.empty t218 x27_2))).trans hx224_5; clear hn224_0; replace p224 := eq_true p224; replace q224 := eq_true q224) | ((with_reducible refine gate_dst (N := 10) rfl ?_); (try (refine gate_guard (by rfl) ?_; dsimp only)); refine box_event ?hg (N := 10) ?hd (cs := #[.int .i64 0, .int .i64 0, .int .i64 0, .string (⟨#[]⟩ : ByteArray), .slice none 0 0, .slice none 0 0]) (t := 83) ?hr ?_; (case hd => rfl); (case hg => rfl); (case hr => first | (go_simp; done) | (go_simp; rfl)); intro gb225 hg w37 hbox hb; have n0_ := Aside0.mk (Kd.R_below tq_34 hb); have n1_ := Aside0.mk (blk_below (g := gb217) (o := .cells #[.int .i64 a0_0, .slice A0_1 l0_1.length c0_1, .slice (some ad224) l0_2.length c0_2] 51 (0, 0)) tq_12 hb); have n2_ := Aside0.mk (blk_below (g := gb223) (o := .cells #[.string (rdOf ByteArray.empty t218 x27_2)] 9 (0, 0)) tq_7 hb); have n3_ := Aside0.mk (below_step tq_18 hb); have n4_ := Aside0.mk (hbox); have n5_ := Aside0.mk (gb_ hg tq_18); have n6_ := Aside0.mk (gb_ hg tq_18); have n7_ := Aside0.mk (ltne_ hg (blk_lt (g := gb217) (o := .cells #[.int .i64 a0_0, .slice A0_1 l0_1.length c0_1, .slice (some ad224) l0_2.length c0_2] 51 (0, 0)) tq_12)); have n8_ := Aside0.mk (gtne_ hg (blk_lt (g := gb217) (o := .cells #[.int .i64 a0_0, .slice A0_1 l0_1.length c0_1, .slice (some ad224) l0_2.length c0_2] 51 (0, 0)) tq_12)); have n9_ := Aside0.mk (ltne_ hg (blk_lt (g := gb223) (o := .cells #[.string (rdOf ByteArray.empty t218 x27_2)] 9 (0, 0)) tq_7)); have n10_ := Aside0.mk (gtne_ hg (blk_lt (g := gb223) (o := .cells #[.string (rdOf ByteArray.empty t218 x27_2)] 9 (0, 0)) tq_7)); clear HO_25 BK217 BK223 HB; have HO_25 := n0_; have BK217 := n1_; have BK223 := n2_; have HB := n3_; have BK225 := n4_; have GW225 := n5_; have GE225 := n6_; have NB217_225 := n7_; have NB225_217 := n8_; have NB223_225 := n9_; have NB225_223 := n10_; clear n0_ n1_ n2_ n3_ n4_ n5_ n6_ n7_ n8_ n9_ n10_; clear hb hbox hg; have hnb38 := NB225_217.out; have hnc38 := NB217_225.out; have hnb39 := NB225_223.out; have hnc39 := NB223_225.out; have hcz40_0 := bc_ BK225.out 0; have hcz40_1 := bc_ BK225.out 1; have hcz40_2 := bc_ BK225.out 2; have hcz40_3 := bc_ BK225.out 3; have hcz40_4 := bc_ BK225.out 4; have hcz40_5 := bc_ BK225.out 5; have hfz40_0 := blk_frozen BK225.out 0; have hfz40_1 := blk_frozen BK225.out 1; have hfz40_2 := blk_frozen BK225.out 2; have hfz40_3 := blk_frozen BK225.out 3; have hfz40_4 := blk_frozen BK225.out 4; have hfz40_5 := blk_frozen BK225.out 5) | ((with_reducible refine gate_callee (f := 70) rfl ?_); refine goesL_ (some 39) rfl rfl Tryd.func70 (by kernel_rfl) rfl #[.slice A224_5 ((rd_T83 l0_2 x7_2).f5).length c224_5, .func (.func 71) #[] #[.pointer (some ⟨gb223, 0, none⟩)]] rfl tq_1 ?_; (with_reducible refine (slices_IndexFunc_Entry_g71.calls _ _ ((rd_T83 l0_2 x7_2).f5) gb223 (rdOf ByteArray.empty t218 x27_2) t226 _ ?side1 ?side2 ?side3 A16.out).mono ?_); (case side1 => exact Kd.C_below HR224_5.out tq_24); (case side2 => exact HC224_5.out); (case side3 => (with_reducible repeat (first | refine blk_drewN ?_ _ | refine blk_drew ?_ | refine blk_alloc ?_ _)); refine blk_far ?_ NB223_225.out _; (with_reducible repeat (first | refine blk_drewN ?_ _ | refine blk_drew ?_ | refine blk_alloc ?_ _)); refine blk_far ?_ NB223_225.out _; (with_reducible repeat (first | refine blk_drewN ?_ _ | refine blk_drew ?_ | refine blk_alloc ?_ _)); refine blk_far ?_ NB223_225.out _; (with_reducible repeat (first | refine blk_drewN ?_ _ | refine blk_drew ?_ | refine blk_alloc ?_ _)); refine blk_far ?_ NB223_225.out _; (with_reducible repeat (first | refine blk_drewN ?_ _ | refine blk_drew ?_ | refine blk_alloc ?_ _)); refine blk_far ?_ NB223_225.out _; (with_reducible repeat (first | refine blk_drewN ?_ _ | refine blk_drew ?_ | refine blk_alloc ?_ _)); refine blk_far ?_ NB223_225.out _; (with_reducible repeat (first | refine blk_drewN ?_ _ | refine blk_drew ?_ | refine blk_alloc ?_ _)); exact BK223.out); rintro e w41 ⟨rfl, hb⟩; refine ⟨_, rfl, ?_⟩; have n0_ := Aside0.mk (Kd.R_below tq_17 hb); have n1_ := Aside0.mk (blk_below (g := gb217) (o := .cells #[.int .i64 a0_0, .slice A0_1 l0_1.length c0_1, .slice (some ad224) l0_2.length c0_2] 51 (0, 0)) tq_11 hb); have n2_ := Aside0.mk (blk_below (g := gb223) (o := .cells #[.string (rdOf ByteArray.empty t218 x27_2)] 9 (0, 0)) tq_10 hb); have n3_ := Aside0.mk (blk_below (g := gb225) (o := .cells #[.int .i64 ((rd_T83 l0_2 x7_2).f0), .int .i64 ((rd_T83 l0_2 x7_2).f1), .int .i64 ((rd_T83 l0_2 x7_2).f2), .string ((rd_T83 l0_2 x7_2).f3), .slice A224_4 ((rd_T83 l0_2 x7_2).f4).length c224_4, .slice A224_5 ((rd_T83 l0_2 x7_2).f5).length c224_5] 83 (0, 0)) tq_3 hb); have n4_ := Aside0.mk (below_step tq_24 hb); clear HO_25 BK217 BK223 BK225 HB; have HO_25 := n0_; have BK217 := n1_; have BK223 := n2_; have BK225 := n3_; have HB := n4_; clear n0_ n1_ n2_ n3_ n4_; (try clear hb); (try clear hb2); (try clear hk); (try clear hi)))
                have n0_ := Aside0.mk (Kd.R_drew HO_25.out)
                have n1_ := Aside0.mk (blk_drew BK217.out)
                have n2_ := Aside0.mk (blk_drew BK223.out)
                have n3_ := Aside0.mk (blk_drew BK225.out)
                have n4_ := Aside0.mk (below_drew1 HB.out)
                clear HO_25 BK217 BK223 BK225 HB
                have HO_25 := n0_
                have BK217 := n1_
                have BK223 := n2_
                have BK225 := n3_
                have HB := n4_
                clear n0_ n1_ n2_ n3_ n4_
                have p227 : 0 ≤ (t226 : Int) := of_decide_eq_true tq_2
                have q227 : t226 < (((rd_T83 l0_2 x7_2).f5).length : Int) := of_decide_eq_true tq_2
                obtain ⟨ad227, e227, hx227_0, hx227_1⟩ := at_T85 HR224_5.out t226 p227 q227
                have hw227_1 := hx227_1
                have hw227_0 := hx227_0
                cases e227
                replace hx227_0 := hx_ HB.out hx227_0
                replace hx227_1 := hx_ HB.out hx227_1
                replace p227 := eq_true p227
                replace q227 := eq_true q227
                refine start_ (n := 21) (S := fun w' => w'.cell? ⟨gb225, 0, none⟩ = some (.int .i64 ((rd_T83 l0_2 x7_2).f0)) ∧ w'.cell? ⟨gb225, 1, none⟩ = some (.int .i64 ((rd_T83 l0_2 x7_2).f1)) ∧ w'.cell? ⟨gb225, 2, none⟩ = some (.int .i64 ((rd_T83 l0_2 x7_2).f2)) ∧ w'.cell? ⟨gb225, 3, none⟩ = some (.string ((rd_T83 l0_2 x7_2).f3)) ∧ w'.cell? ⟨gb225, 4, none⟩ = some (.slice A224_4 ((rd_T83 l0_2 x7_2).f4).length c224_4) ∧ w'.cell? ⟨gb225, 5, none⟩ = some (.slice (some ad227) ((rd_T83 l0_2 x7_2).f5).length c224_5) ∧ w'.cell? ⟨gb217, 0, none⟩ = some (.int .i64 a0_0) ∧ w'.cell? ⟨gb217, 1, none⟩ = some (.slice A0_1 l0_1.length c0_1) ∧ w'.cell? ⟨gb217, 2, none⟩ = some (.slice (some ad224) l0_2.length c0_2) ∧ w'.cell? (ad227.add ((t226).toNat * 2)) = some (.int .i64 ((rd_T85 ((rd_T83 l0_2 x7_2).f5) t226).f0)) ∧ w'.cell? ⟨(ad227.add ((t226).toNat * 2)).block, (ad227.add ((t226).toNat * 2)).off + 1, none⟩ = some (.string ((rd_T85 ((rd_T83 l0_2 x7_2).f5) t226).f1))) (ds := []) bq_11 (by kernel_rfl) rfl rfl ⟨(blk_cell BK225.out 0).trans rfl, (blk_cell BK225.out 1).trans rfl, (blk_cell BK225.out 2).trans rfl, (blk_cell BK225.out 3).trans rfl, (blk_cell BK225.out 4).trans rfl, (blk_cell BK225.out 5).trans rfl, (blk_cell BK217.out 0).trans rfl, (blk_cell BK217.out 1).trans rfl, (blk_cell BK217.out 2).trans rfl, ((HB.out.cell (World.block_lt_of_cell? w _ hw227_0)).trans hw227_0), ((HB.out.cell (World.block_lt_of_cell? w _ hw227_1)).trans hw227_1)⟩ (fun hHeld => ?_); refine with_tabW impl_FindInode.tab10 impl_FindInode.bits10 (fun HT_ HW_ => ?_)
                generalize w41.drew = w42 at HO_25 BK217 BK223 BK225 HB hx227_0 hx227_1 hHeld ⊢
                refine yq_ (i := 0) (N := some 40) bq_12 (any_of HT_.out (by kernel_rfl)) ?_
                refine take_ (i := 1) (N := some 41) (v := ?_) (a' := ?_) bq_13 rfl rfl (take_ofW HT_.out HW_.out (by kernel_rfl)) (fun _ _ _ h => h) (Or.inl ⟨by rfl, ?_⟩) hHeld ?_ ?_
                rotate_left
                ·rintro w' ⟨s0, s1, s2, s3, s4, s5, s6, s7, s8, s9, s10⟩
                 go_simp
                 with_reducible rfl
                rotate_left
                ·simp only [Act.put, List.setIfInBounds_toArray, List.set_cons_zero, List.set_cons_succ, i64_w, i32_w]
                 rfl
                refine yq_ (i := 2) (N := some 42) bq_14 (any_of HT_.out (by kernel_rfl)) ?_
                refine yq_ (i := 3) (N := some 43) bq_15 (any_of HT_.out (by kernel_rfl)) ?_
                refine yq_ (i := 4) (N := some 44) bq_16 (any_of HT_.out (by kernel_rfl)) ?_
                refine yq_ (i := 5) (N := some 45) bq_17 (any_of HT_.out (by kernel_rfl)) ?_
                refine yq_ (i := 6) (N := some 46) bq_18 (any_of HT_.out (by kernel_rfl)) ?_
                refine yq_ (i := 7) (N := some 47) bq_19 (any_of HT_.out (by kernel_rfl)) ?_
                refine yq_ (i := 8) (N := some 48) bq_20 (any_of HT_.out (by kernel_rfl)) ?_
                refine yq_ (i := 10) (N := some 50) bq_33 (any_of HT_.out (by kernel_rfl)) ?_
                refine yq_ (i := 14) (N := some 54) bq_34 (any_of HT_.out (by kernel_rfl)) ?_
                refine take_ (i := 9) (N := some 49) (v := ?_) (a' := ?_) bq_35 rfl rfl (take_ofW HT_.out HW_.out (by kernel_rfl)) (fun _ _ _ h => h) (Or.inl ⟨by rfl, ?_⟩) hHeld ?_ ?_
                rotate_left
                ·rintro w' ⟨s0, s1, s2, s3, s4, s5, s6, s7, s8, s9, s10⟩
                 go_simp
                 with_reducible rfl
                rotate_left
                ·simp only [Act.put, List.setIfInBounds_toArray, List.set_cons_zero, List.set_cons_succ, i64_w, i32_w]
                 rfl
                refine yq_ (i := 11) (N := some 51) bq_36 (any_of HT_.out (by kernel_rfl)) ?_
                refine yq_ (i := 12) (N := some 52) bq_37 (any_of HT_.out (by kernel_rfl)) ?_
                refine take_ (i := 13) (N := some 53) (v := ?_) (a' := ?_) bq_21 rfl rfl (take_ofW HT_.out HW_.out (by kernel_rfl)) (fun _ _ _ h => h) (Or.inl ⟨by rfl, ?_⟩) hHeld ?_ ?_
                rotate_left
                ·rintro w' ⟨s0, s1, s2, s3, s4, s5, s6, s7, s8, s9, s10⟩
                 go_simp
                 with_reducible rfl
                rotate_left
                ·simp only [Act.put, List.setIfInBounds_toArray, List.set_cons_zero, List.set_cons_succ, i64_w, i32_w]
                 rfl
                refine take_ (i := 15) (N := some 55) (v := ?_) (a' := ?_) bq_22 rfl rfl (take_ofW HT_.out HW_.out (by kernel_rfl)) (fun _ _ _ h => h) (Or.inl ⟨by rfl, ?_⟩) hHeld ?_ ?_
                rotate_left
                ·rintro w' ⟨s0, s1, s2, s3, s4, s5, s6, s7, s8, s9, s10⟩
                 go_simp
                 with_reducible rfl
                rotate_left
                ·simp only [Act.put, List.setIfInBounds_toArray, List.set_cons_zero, List.set_cons_succ, i64_w, i32_w]
                 rfl
                refine yq_ (i := 16) (N := some 56) bq_23 (any_of HT_.out (by kernel_rfl)) ?_
                refine yq_ (i := 17) (N := some 57) bq_24 (any_of HT_.out (by kernel_rfl)) ?_
                refine one_ (i := 18) (N := some 58) bq_25 rfl rfl (one_of HT_.out (by kernel_rfl)) (by decide) (fun K hK => ?_)
                refine goes_ Tryd.func72 (by kernel_rfl) rfl #[.int .i64 ((rd_T85 ((rd_T83 l0_2 x7_2).f5) t226).f0), .int .i64 0, .int .i64 (wrap64 ((l0_2.length : Int) - 1))] (by rfl) rfl rfl tq_1 ?_
                with_reducible refine (impl_within.calls ((rd_T85 ((rd_T83 l0_2 x7_2).f5) t226).f0) 0 (wrap64 ((l0_2.length : Int) - 1)) true _ A31.out).mono ?_
                rintro e w' ⟨rfl, ⟨nd, rfl⟩⟩
                refine ⟨_, rfl, ?_⟩
                refine hK.out _ _ ⟨(blk_cell BK225.out 0).trans rfl, (blk_cell BK225.out 1).trans rfl, (blk_cell BK225.out 2).trans rfl, (blk_cell BK225.out 3).trans rfl, (blk_cell BK225.out 4).trans rfl, (blk_cell BK225.out 5).trans rfl, (blk_cell BK217.out 0).trans rfl, (blk_cell BK217.out 1).trans rfl, (blk_cell BK217.out 2).trans rfl, ((HB.out.cell (World.block_lt_of_cell? w _ hw227_0)).trans hw227_0), ((HB.out.cell (World.block_lt_of_cell? w _ hw227_1)).trans hw227_1)⟩ (fun hHeld => ?_)
                clear hK K
                refine norm_ (a' := ?_) ?_ ?_
                rotate_left
                ·show Act.put _ (some 58) _ = _
                 simp only [Act.put, List.setIfInBounds_toArray, List.set_cons_zero, List.set_cons_succ, i64_w, i32_w]
                 rfl
                refine yq_ (i := 19) (N := some 59) bq_26 (any_of HT_.out (by kernel_rfl)) ?_
                refine yq_ (i := 20) (N := some 60) bq_27 (any_of HT_.out (by kernel_rfl)) ?_
                refine done_ (done_of HT_.out (by kernel_rfl)) ?_
                have hcz43_0 := bc_ BK225.out 0
                have hcz43_1 := bc_ BK225.out 1
                have hcz43_2 := bc_ BK225.out 2
                have hcz43_3 := bc_ BK225.out 3
                have hcz43_4 := bc_ BK225.out 4
                have hcz43_5 := bc_ BK225.out 5
                have hfz43_0 := blk_frozen BK225.out 0
                have hfz43_1 := blk_frozen BK225.out 1
                have hfz43_2 := blk_frozen BK225.out 2
                have hfz43_3 := blk_frozen BK225.out 3
                have hfz43_4 := blk_frozen BK225.out 4
                have hfz43_5 := blk_frozen BK225.out 5
                have p229 : 0 ≤ (t226 : Int) := of_decide_eq_true tq_2
                have q229 : t226 < (((rd_T83 l0_2 x7_2).f5).length : Int) := of_decide_eq_true tq_2
                obtain ⟨ad229, e229, hx229_0, hx229_1⟩ := at_T85 HR224_5.out t226 p229 q229
                obtain rfl : ad227 = ad229 := (by injection e229)
                replace hx229_0 := hx_ HB.out hx229_0
                replace hx229_1 := hx_ HB.out hx229_1
                replace p229 := eq_true p229
                replace q229 := eq_true q229
                try go_wp2
                go_roundg k2
                case measure => have := HJ3.out; have := HK2.out; omega
                case rel => exact ⟨((rd_T85 ((rd_T83 l0_2 x7_2).f5) t226).f0), (wrap64 (x27_2 + 1)), tq_5, tq_5, H', ⟨by have := HJ3.out; have := HK2.out; omega⟩, ⟨by (with_reducible repeat (first | apply Kd.R_alloc | apply Kd.R_drewN | apply Kd.R_drew)); exact Kd.R_mono HO_25.out (fun _ hk => trivial)⟩, ⟨by (with_reducible repeat (first | refine blk_drewN ?_ _ | refine blk_drew ?_ | refine blk_alloc ?_ _)); exact BK217.out⟩, ⟨by repeat (first | (with_reducible first | exact HB.out | apply below_alloc | apply pw_below_drewN | apply below_drew1 | refine below_set ?_ GE217.out | refine below_set ?_ GE223.out | refine below_set ?_ GE225.out) | exact HB.out)⟩⟩
               ·replace c32 := Bool.eq_false_iff.mpr c32
                subst c32
                have H1 : (some (-1)) = some r := by rw [if_neg (show ¬ (false = true) by decide)] at H; exact H
                clear H
                have H := H1
                clear H1
                obtain rfl := Option.some.inj H
                have p222 : 0 ≤ (x27_2 : Int) := of_decide_eq_true tq_2
                have q222 : x27_2 < (t218.length : Int) := of_decide_eq_true tq_2
                obtain ⟨ad222, e222, hx222_0⟩ := Kd.at_string (Kd.R_reads' HO_25.out).2.2 x27_2 p222 q222
                cases e222
                replace p222 := eq_true p222
                replace q222 := eq_true q222
                try go_wp2_with (first | ((with_reducible refine gate_dst (N := 9) rfl ?_); (try (refine gate_guard (by rfl) ?_; dsimp only)); refine box_event ?hg (N := 9) ?hd (cs := #[.string (⟨#[]⟩ : ByteArray)]) (t := 9) ?hr ?_; (case hd => rfl); (case hg => rfl); (case hr => first | (go_simp; done) | (go_simp; rfl)); intro gb223 hg w44 hbox hb; have n0_ := Aside0.mk (Kd.R_below (Kd.R_elderB tq_68 gb223 (Nat.le_of_eq hg.symm)) hb); have n1_ := Aside0.mk (blk_below tq_26 hb); have n2_ := Aside0.mk (below_step tq_16 hb); have n3_ := Aside0.mk (hbox); have n4_ := Aside0.mk (gb_ hg tq_16); have n5_ := Aside0.mk (gb_ hg tq_16); have n6_ := Aside0.mk (ltne_ hg (blk_lt tq_26)); have n7_ := Aside0.mk (gtne_ hg (blk_lt tq_26)); clear HO_25 BK217 HB; have HO_25 := n0_; have BK217 := n1_; have HB := n2_; have BK223 := n3_; have GW223 := n4_; have GE223 := n5_; have NB217_223 := n6_; have NB223_217 := n7_; clear n0_ n1_ n2_ n3_ n4_ n5_ n6_ n7_; clear hb hbox hg; have hnb45 := NB223_217.out; have hnc45 := NB217_223.out; have hcz46_0 := bc_ BK223.out 0; have hfz46_0 := blk_frozen BK223.out 0; have hcz47_0 := bc_ BK217.out 0; have hcz47_1 := bc_ BK217.out 1; have hcz47_2 := bc_ BK217.out 2; have hfz47_0 := blk_frozen BK217.out 0; have hfz47_1 := blk_frozen BK217.out 1; have hfz47_2 := blk_frozen BK217.out 2; have p224 : 0 ≤ (x7_2 : Int) := of_decide_eq_true tq_2; have q224 : x7_2 < (l0_2.length : Int) := of_decide_eq_true tq_2; obtain ⟨ad224, A224_4, c224_4, A224_5, c224_5, e224, hx224_0, hx224_1, hx224_2, hx224_3, hx224_4, hx224_5, hl224_4, hi224_4, hl224_5, hi224_5⟩ := at_T83 HR0_2.out x7_2 p224 q224; cases e224; have hn224_0 : ad224.block ≠ gb223 := Nat.ne_of_lt (Nat.lt_of_lt_of_le tq_71 GW223.out); replace hx224_0 := hx_ HB.out hx224_0; replace hx224_1 := hx_ HB.out hx224_1; replace hx224_2 := hx_ HB.out hx224_2; replace hx224_3 := hx_ HB.out hx224_3; replace hx224_4 := hx_ HB.out hx224_4; replace hx224_5 := hx_ HB.out hx224_5; have HR224_4 := Aside0.mk hi224_4; have HC224_4 := Aside0.mk hl224_4; clear hi224_4 hl224_4; have HR224_5 := Aside0.mk hi224_5; have HC224_5 := Aside0.mk hl224_5; clear hi224_5 hl224_5; replace hx224_0 := (cell_far (p := ⟨gb223, 0, none⟩) tq_14 (.string (rdOf ByteArray.empty t218 x27_2))).trans hx224_0; replace hx224_1 := (cell_far (p := ⟨gb223, 0, none⟩) tq_14 (.string (rdOf ByteArray.empty t218 x27_2))).trans hx224_1; replace hx224_2 := (cell_far (p := ⟨gb223, 0, none⟩) tq_14 (.string (rdOf ByteArray.empty t218 x27_2))).trans hx224_2; replace hx224_3 := (cell_far (p := ⟨gb223, 0, none⟩) tq_14 (.string (rdOf ByteArray.empty t218 x27_2))).trans hx224_3; replace hx224_4 := (cell_far (p := ⟨gb223, 0, none⟩) tq_14 (.string (rdOf ByteArray.empty t218 x27_2))).trans hx224_4; replace hx224_5 := (cell_far (p := ⟨gb223, 0, none⟩) tq_14 (.string (rdOf ByteArray.empty t218 x27_2))).trans hx224_5; clear hn224_0; replace p224 := eq_true p224; replace q224 := eq_true q224) | ((with_reducible refine gate_dst (N := 10) rfl ?_); (try (refine gate_guard (by rfl) ?_; dsimp only)); refine box_event ?hg (N := 10) ?hd (cs := #[.int .i64 0, .int .i64 0, .int .i64 0, .string (⟨#[]⟩ : ByteArray), .slice none 0 0, .slice none 0 0]) (t := 83) ?hr ?_; (case hd => rfl); (case hg => rfl); (case hr => first | (go_simp; done) | (go_simp; rfl)); intro gb225 hg w48 hbox hb; have n0_ := Aside0.mk (Kd.R_below tq_34 hb); have n1_ := Aside0.mk (blk_below (g := gb217) (o := .cells #[.int .i64 a0_0, .slice A0_1 l0_1.length c0_1, .slice (some ad224) l0_2.length c0_2] 51 (0, 0)) tq_12 hb); have n2_ := Aside0.mk (blk_below (g := gb223) (o := .cells #[.string (rdOf ByteArray.empty t218 x27_2)] 9 (0, 0)) tq_7 hb); have n3_ := Aside0.mk (below_step tq_18 hb); have n4_ := Aside0.mk (hbox); have n5_ := Aside0.mk (gb_ hg tq_18); have n6_ := Aside0.mk (gb_ hg tq_18); have n7_ := Aside0.mk (ltne_ hg (blk_lt (g := gb217) (o := .cells #[.int .i64 a0_0, .slice A0_1 l0_1.length c0_1, .slice (some ad224) l0_2.length c0_2] 51 (0, 0)) tq_12)); have n8_ := Aside0.mk (gtne_ hg (blk_lt (g := gb217) (o := .cells #[.int .i64 a0_0, .slice A0_1 l0_1.length c0_1, .slice (some ad224) l0_2.length c0_2] 51 (0, 0)) tq_12)); have n9_ := Aside0.mk (ltne_ hg (blk_lt (g := gb223) (o := .cells #[.string (rdOf ByteArray.empty t218 x27_2)] 9 (0, 0)) tq_7)); have n10_ := Aside0.mk (gtne_ hg (blk_lt (g := gb223) (o := .cells #[.string (rdOf ByteArray.empty t218 x27_2)] 9 (0, 0)) tq_7)); clear HO_25 BK217 BK223 HB; have HO_25 := n0_; have BK217 := n1_; have BK223 := n2_; have HB := n3_; have BK225 := n4_; have GW225 := n5_; have GE225 := n6_; have NB217_225 := n7_; have NB225_217 := n8_; have NB223_225 := n9_; have NB225_223 := n10_; clear n0_ n1_ n2_ n3_ n4_ n5_ n6_ n7_ n8_ n9_ n10_; clear hb hbox hg; have hnb49 := NB225_217.out; have hnc49 := NB217_225.out; have hnb50 := NB225_223.out; have hnc50 := NB223_225.out; have hcz51_0 := bc_ BK225.out 0; have hcz51_1 := bc_ BK225.out 1; have hcz51_2 := bc_ BK225.out 2; have hcz51_3 := bc_ BK225.out 3; have hcz51_4 := bc_ BK225.out 4; have hcz51_5 := bc_ BK225.out 5; have hfz51_0 := blk_frozen BK225.out 0; have hfz51_1 := blk_frozen BK225.out 1; have hfz51_2 := blk_frozen BK225.out 2; have hfz51_3 := blk_frozen BK225.out 3; have hfz51_4 := blk_frozen BK225.out 4; have hfz51_5 := blk_frozen BK225.out 5) | ((with_reducible refine gate_callee (f := 70) rfl ?_); refine goesL_ (some 39) rfl rfl Tryd.func70 (by kernel_rfl) rfl #[.slice A224_5 ((rd_T83 l0_2 x7_2).f5).length c224_5, .func (.func 71) #[] #[.pointer (some ⟨gb223, 0, none⟩)]] rfl tq_1 ?_; (with_reducible refine (slices_IndexFunc_Entry_g71.calls _ _ ((rd_T83 l0_2 x7_2).f5) gb223 (rdOf ByteArray.empty t218 x27_2) t226 _ ?side1 ?side2 ?side3 A16.out).mono ?_); (case side1 => exact Kd.C_below HR224_5.out tq_24); (case side2 => exact HC224_5.out); (case side3 => (with_reducible repeat (first | refine blk_drewN ?_ _ | refine blk_drew ?_ | refine blk_alloc ?_ _)); refine blk_far ?_ NB223_225.out _; (with_reducible repeat (first | refine blk_drewN ?_ _ | refine blk_drew ?_ | refine blk_alloc ?_ _)); refine blk_far ?_ NB223_225.out _; (with_reducible repeat (first | refine blk_drewN ?_ _ | refine blk_drew ?_ | refine blk_alloc ?_ _)); refine blk_far ?_ NB223_225.out _; (with_reducible repeat (first | refine blk_drewN ?_ _ | refine blk_drew ?_ | refine blk_alloc ?_ _)); refine blk_far ?_ NB223_225.out _; (with_reducible repeat (first | refine blk_drewN ?_ _ | refine blk_drew ?_ | refine blk_alloc ?_ _)); refine blk_far ?_ NB223_225.out _; (with_reducible repeat (first | refine blk_drewN ?_ _ | refine blk_drew ?_ | refine blk_alloc ?_ _)); refine blk_far ?_ NB223_225.out _; (with_reducible repeat (first | refine blk_drewN ?_ _ | refine blk_drew ?_ | refine blk_alloc ?_ _)); exact BK223.out); rintro e w52 ⟨rfl, hb⟩; refine ⟨_, rfl, ?_⟩; have n0_ := Aside0.mk (Kd.R_below tq_17 hb); have n1_ := Aside0.mk (blk_below (g := gb217) (o := .cells #[.int .i64 a0_0, .slice A0_1 l0_1.length c0_1, .slice (some ad224) l0_2.length c0_2] 51 (0, 0)) tq_11 hb); have n2_ := Aside0.mk (blk_below (g := gb223) (o := .cells #[.string (rdOf ByteArray.empty t218 x27_2)] 9 (0, 0)) tq_10 hb); have n3_ := Aside0.mk (blk_below (g := gb225) (o := .cells #[.int .i64 ((rd_T83 l0_2 x7_2).f0), .int .i64 ((rd_T83 l0_2 x7_2).f1), .int .i64 ((rd_T83 l0_2 x7_2).f2), .string ((rd_T83 l0_2 x7_2).f3), .slice A224_4 ((rd_T83 l0_2 x7_2).f4).length c224_4, .slice A224_5 ((rd_T83 l0_2 x7_2).f5).length c224_5] 83 (0, 0)) tq_3 hb); have n4_ := Aside0.mk (below_step tq_24 hb); clear HO_25 BK217 BK223 BK225 HB; have HO_25 := n0_; have BK217 := n1_; have BK223 := n2_; have BK225 := n3_; have HB := n4_; clear n0_ n1_ n2_ n3_ n4_; (try clear hb); (try clear hb2); (try clear hk); (try clear hi)))
                have n0_ := Aside0.mk (Kd.R_drew HO_25.out)
                have n1_ := Aside0.mk (blk_drew BK217.out)
                have n2_ := Aside0.mk (blk_drew BK223.out)
                have n3_ := Aside0.mk (blk_drew BK225.out)
                have n4_ := Aside0.mk (below_drew1 HB.out)
                clear HO_25 BK217 BK223 BK225 HB
                have HO_25 := n0_
                have BK217 := n1_
                have BK223 := n2_
                have BK225 := n3_
                have HB := n4_
                clear n0_ n1_ n2_ n3_ n4_
                have p227 : 0 ≤ (t226 : Int) := of_decide_eq_true tq_2
                have q227 : t226 < (((rd_T83 l0_2 x7_2).f5).length : Int) := of_decide_eq_true tq_2
                obtain ⟨ad227, e227, hx227_0, hx227_1⟩ := at_T85 HR224_5.out t226 p227 q227
                have hw227_1 := hx227_1
                have hw227_0 := hx227_0
                cases e227
                replace hx227_0 := hx_ HB.out hx227_0
                replace hx227_1 := hx_ HB.out hx227_1
                replace p227 := eq_true p227
                replace q227 := eq_true q227
                refine start_ (n := 21) (S := fun w' => w'.cell? ⟨gb225, 0, none⟩ = some (.int .i64 ((rd_T83 l0_2 x7_2).f0)) ∧ w'.cell? ⟨gb225, 1, none⟩ = some (.int .i64 ((rd_T83 l0_2 x7_2).f1)) ∧ w'.cell? ⟨gb225, 2, none⟩ = some (.int .i64 ((rd_T83 l0_2 x7_2).f2)) ∧ w'.cell? ⟨gb225, 3, none⟩ = some (.string ((rd_T83 l0_2 x7_2).f3)) ∧ w'.cell? ⟨gb225, 4, none⟩ = some (.slice A224_4 ((rd_T83 l0_2 x7_2).f4).length c224_4) ∧ w'.cell? ⟨gb225, 5, none⟩ = some (.slice (some ad227) ((rd_T83 l0_2 x7_2).f5).length c224_5) ∧ w'.cell? ⟨gb217, 0, none⟩ = some (.int .i64 a0_0) ∧ w'.cell? ⟨gb217, 1, none⟩ = some (.slice A0_1 l0_1.length c0_1) ∧ w'.cell? ⟨gb217, 2, none⟩ = some (.slice (some ad224) l0_2.length c0_2) ∧ w'.cell? (ad227.add ((t226).toNat * 2)) = some (.int .i64 ((rd_T85 ((rd_T83 l0_2 x7_2).f5) t226).f0)) ∧ w'.cell? ⟨(ad227.add ((t226).toNat * 2)).block, (ad227.add ((t226).toNat * 2)).off + 1, none⟩ = some (.string ((rd_T85 ((rd_T83 l0_2 x7_2).f5) t226).f1))) (ds := []) bq_11 (by kernel_rfl) rfl rfl ⟨(blk_cell BK225.out 0).trans rfl, (blk_cell BK225.out 1).trans rfl, (blk_cell BK225.out 2).trans rfl, (blk_cell BK225.out 3).trans rfl, (blk_cell BK225.out 4).trans rfl, (blk_cell BK225.out 5).trans rfl, (blk_cell BK217.out 0).trans rfl, (blk_cell BK217.out 1).trans rfl, (blk_cell BK217.out 2).trans rfl, ((HB.out.cell (World.block_lt_of_cell? w _ hw227_0)).trans hw227_0), ((HB.out.cell (World.block_lt_of_cell? w _ hw227_1)).trans hw227_1)⟩ (fun hHeld => ?_); refine with_tabW impl_FindInode.tab10 impl_FindInode.bits10 (fun HT_ HW_ => ?_)
                generalize w52.drew = w53 at HO_25 BK217 BK223 BK225 HB hx227_0 hx227_1 hHeld ⊢
                refine yq_ (i := 0) (N := some 40) bq_12 (any_of HT_.out (by kernel_rfl)) ?_
                refine take_ (i := 1) (N := some 41) (v := ?_) (a' := ?_) bq_13 rfl rfl (take_ofW HT_.out HW_.out (by kernel_rfl)) (fun _ _ _ h => h) (Or.inl ⟨by rfl, ?_⟩) hHeld ?_ ?_
                rotate_left
                ·rintro w' ⟨s0, s1, s2, s3, s4, s5, s6, s7, s8, s9, s10⟩
                 go_simp
                 with_reducible rfl
                rotate_left
                ·simp only [Act.put, List.setIfInBounds_toArray, List.set_cons_zero, List.set_cons_succ, i64_w, i32_w]
                 rfl
                refine yq_ (i := 2) (N := some 42) bq_14 (any_of HT_.out (by kernel_rfl)) ?_
                refine yq_ (i := 3) (N := some 43) bq_15 (any_of HT_.out (by kernel_rfl)) ?_
                refine yq_ (i := 4) (N := some 44) bq_16 (any_of HT_.out (by kernel_rfl)) ?_
                refine yq_ (i := 5) (N := some 45) bq_17 (any_of HT_.out (by kernel_rfl)) ?_
                refine yq_ (i := 6) (N := some 46) bq_18 (any_of HT_.out (by kernel_rfl)) ?_
                refine yq_ (i := 7) (N := some 47) bq_19 (any_of HT_.out (by kernel_rfl)) ?_
                refine yq_ (i := 8) (N := some 48) bq_20 (any_of HT_.out (by kernel_rfl)) ?_
                refine yq_ (i := 10) (N := some 50) bq_33 (any_of HT_.out (by kernel_rfl)) ?_
                refine yq_ (i := 14) (N := some 54) bq_34 (any_of HT_.out (by kernel_rfl)) ?_
                refine take_ (i := 9) (N := some 49) (v := ?_) (a' := ?_) bq_35 rfl rfl (take_ofW HT_.out HW_.out (by kernel_rfl)) (fun _ _ _ h => h) (Or.inl ⟨by rfl, ?_⟩) hHeld ?_ ?_
                rotate_left
                ·rintro w' ⟨s0, s1, s2, s3, s4, s5, s6, s7, s8, s9, s10⟩
                 go_simp
                 with_reducible rfl
                rotate_left
                ·simp only [Act.put, List.setIfInBounds_toArray, List.set_cons_zero, List.set_cons_succ, i64_w, i32_w]
                 rfl
                refine yq_ (i := 11) (N := some 51) bq_36 (any_of HT_.out (by kernel_rfl)) ?_
                refine yq_ (i := 12) (N := some 52) bq_37 (any_of HT_.out (by kernel_rfl)) ?_
                refine take_ (i := 13) (N := some 53) (v := ?_) (a' := ?_) bq_21 rfl rfl (take_ofW HT_.out HW_.out (by kernel_rfl)) (fun _ _ _ h => h) (Or.inl ⟨by rfl, ?_⟩) hHeld ?_ ?_
                rotate_left
                ·rintro w' ⟨s0, s1, s2, s3, s4, s5, s6, s7, s8, s9, s10⟩
                 go_simp
                 with_reducible rfl
                rotate_left
                ·simp only [Act.put, List.setIfInBounds_toArray, List.set_cons_zero, List.set_cons_succ, i64_w, i32_w]
                 rfl
                refine take_ (i := 15) (N := some 55) (v := ?_) (a' := ?_) bq_22 rfl rfl (take_ofW HT_.out HW_.out (by kernel_rfl)) (fun _ _ _ h => h) (Or.inl ⟨by rfl, ?_⟩) hHeld ?_ ?_
                rotate_left
                ·rintro w' ⟨s0, s1, s2, s3, s4, s5, s6, s7, s8, s9, s10⟩
                 go_simp
                 with_reducible rfl
                rotate_left
                ·simp only [Act.put, List.setIfInBounds_toArray, List.set_cons_zero, List.set_cons_succ, i64_w, i32_w]
                 rfl
                refine yq_ (i := 16) (N := some 56) bq_23 (any_of HT_.out (by kernel_rfl)) ?_
                refine yq_ (i := 17) (N := some 57) bq_24 (any_of HT_.out (by kernel_rfl)) ?_
                refine one_ (i := 18) (N := some 58) bq_25 rfl rfl (one_of HT_.out (by kernel_rfl)) (by decide) (fun K hK => ?_)
                refine goes_ Tryd.func72 (by kernel_rfl) rfl #[.int .i64 ((rd_T85 ((rd_T83 l0_2 x7_2).f5) t226).f0), .int .i64 0, .int .i64 (wrap64 ((l0_2.length : Int) - 1))] (by rfl) rfl rfl tq_1 ?_
                with_reducible refine (impl_within.calls ((rd_T85 ((rd_T83 l0_2 x7_2).f5) t226).f0) 0 (wrap64 ((l0_2.length : Int) - 1)) false _ A31.out).mono ?_
                rintro e w' ⟨rfl, ⟨nd, rfl⟩⟩
                refine ⟨_, rfl, ?_⟩
                refine hK.out _ _ ⟨(blk_cell BK225.out 0).trans rfl, (blk_cell BK225.out 1).trans rfl, (blk_cell BK225.out 2).trans rfl, (blk_cell BK225.out 3).trans rfl, (blk_cell BK225.out 4).trans rfl, (blk_cell BK225.out 5).trans rfl, (blk_cell BK217.out 0).trans rfl, (blk_cell BK217.out 1).trans rfl, (blk_cell BK217.out 2).trans rfl, ((HB.out.cell (World.block_lt_of_cell? w _ hw227_0)).trans hw227_0), ((HB.out.cell (World.block_lt_of_cell? w _ hw227_1)).trans hw227_1)⟩ (fun hHeld => ?_)
                clear hK K
                refine norm_ (a' := ?_) ?_ ?_
                rotate_left
                ·show Act.put _ (some 58) _ = _
                 simp only [Act.put, List.setIfInBounds_toArray, List.set_cons_zero, List.set_cons_succ, i64_w, i32_w]
                 rfl
                refine yq_ (i := 19) (N := some 59) bq_26 (any_of HT_.out (by kernel_rfl)) ?_
                refine yq_ (i := 20) (N := some 60) bq_27 (any_of HT_.out (by kernel_rfl)) ?_
                refine done_ (done_of HT_.out (by kernel_rfl)) ?_
                try go_wp2
                go_ret
                exact ⟨by first | rfl | (simp [errW_none, errW_some] <;> rfl) | (simp [*, errW_none, errW_some] <;> rfl), by repeat (first | (with_reducible first | exact HB.out | apply below_alloc | apply pw_below_drewN | apply below_drew1 | refine below_set ?_ GE217.out | refine below_set ?_ GE223.out | refine below_set ?_ GE225.out) | exact HB.out)⟩
              ·rw [if_neg c30] at H
               exact absurd H (by simp)
             ·rw [if_neg c29] at H
              exact absurd H (by simp)
           ·rw [if_neg c17] at H
            have c17b0 : (((rd_T83 l0_2 x7_2).f0) == 2) = false := beq_eq_false_iff_ne.mpr c17
            have c17b1 : (((rd_T83 l0_2 x7_2).f0) != 2) = true := bne_iff_ne.mpr c17
            obtain rfl := Option.some.inj H
            have p222 : 0 ≤ (x27_2 : Int) := of_decide_eq_true tq_2
            have q222 : x27_2 < (t218.length : Int) := of_decide_eq_true tq_2
            obtain ⟨ad222, e222, hx222_0⟩ := Kd.at_string (Kd.R_reads' HO_25.out).2.2 x27_2 p222 q222
            cases e222
            replace p222 := eq_true p222
            replace q222 := eq_true q222
            try go_wp2_with (first | ((with_reducible refine gate_dst (N := 9) rfl ?_); (try (refine gate_guard (by rfl) ?_; dsimp only)); refine box_event ?hg (N := 9) ?hd (cs := #[.string (⟨#[]⟩ : ByteArray)]) (t := 9) ?hr ?_; (case hd => rfl); (case hg => rfl); (case hr => first | (go_simp; done) | (go_simp; rfl)); intro gb223 hg w54 hbox hb; have n0_ := Aside0.mk (Kd.R_below (Kd.R_elderB tq_68 gb223 (Nat.le_of_eq hg.symm)) hb); have n1_ := Aside0.mk (blk_below tq_26 hb); have n2_ := Aside0.mk (below_step tq_16 hb); have n3_ := Aside0.mk (hbox); have n4_ := Aside0.mk (gb_ hg tq_16); have n5_ := Aside0.mk (gb_ hg tq_16); have n6_ := Aside0.mk (ltne_ hg (blk_lt tq_26)); have n7_ := Aside0.mk (gtne_ hg (blk_lt tq_26)); clear HO_25 BK217 HB; have HO_25 := n0_; have BK217 := n1_; have HB := n2_; have BK223 := n3_; have GW223 := n4_; have GE223 := n5_; have NB217_223 := n6_; have NB223_217 := n7_; clear n0_ n1_ n2_ n3_ n4_ n5_ n6_ n7_; clear hb hbox hg; have hnb55 := NB223_217.out; have hnc55 := NB217_223.out; have hcz56_0 := bc_ BK223.out 0; have hfz56_0 := blk_frozen BK223.out 0; have hcz57_0 := bc_ BK217.out 0; have hcz57_1 := bc_ BK217.out 1; have hcz57_2 := bc_ BK217.out 2; have hfz57_0 := blk_frozen BK217.out 0; have hfz57_1 := blk_frozen BK217.out 1; have hfz57_2 := blk_frozen BK217.out 2; have p224 : 0 ≤ (x7_2 : Int) := of_decide_eq_true tq_2; have q224 : x7_2 < (l0_2.length : Int) := of_decide_eq_true tq_2; obtain ⟨ad224, A224_4, c224_4, A224_5, c224_5, e224, hx224_0, hx224_1, hx224_2, hx224_3, hx224_4, hx224_5, hl224_4, hi224_4, hl224_5, hi224_5⟩ := at_T83 HR0_2.out x7_2 p224 q224; cases e224; have hn224_0 : ad224.block ≠ gb223 := Nat.ne_of_lt (Nat.lt_of_lt_of_le tq_71 GW223.out); replace hx224_0 := hx_ HB.out hx224_0; replace hx224_1 := hx_ HB.out hx224_1; replace hx224_2 := hx_ HB.out hx224_2; replace hx224_3 := hx_ HB.out hx224_3; replace hx224_4 := hx_ HB.out hx224_4; replace hx224_5 := hx_ HB.out hx224_5; have HR224_4 := Aside0.mk hi224_4; have HC224_4 := Aside0.mk hl224_4; clear hi224_4 hl224_4; have HR224_5 := Aside0.mk hi224_5; have HC224_5 := Aside0.mk hl224_5; clear hi224_5 hl224_5; replace hx224_0 := (cell_far (p := ⟨gb223, 0, none⟩) tq_14 (.string (rdOf ByteArray.empty t218 x27_2))).trans hx224_0; replace hx224_1 := (cell_far (p := ⟨gb223, 0, none⟩) tq_14 (.string (rdOf ByteArray.empty t218 x27_2))).trans hx224_1; replace hx224_2 := (cell_far (p := ⟨gb223, 0, none⟩) tq_14 (.string (rdOf ByteArray.empty t218 x27_2))).trans hx224_2; replace hx224_3 := (cell_far (p := ⟨gb223, 0, none⟩) tq_14 (.string (rdOf ByteArray.empty t218 x27_2))).trans hx224_3; replace hx224_4 := (cell_far (p := ⟨gb223, 0, none⟩) tq_14 (.string (rdOf ByteArray.empty t218 x27_2))).trans hx224_4; replace hx224_5 := (cell_far (p := ⟨gb223, 0, none⟩) tq_14 (.string (rdOf ByteArray.empty t218 x27_2))).trans hx224_5; clear hn224_0; replace p224 := eq_true p224; replace q224 := eq_true q224) | ((with_reducible refine gate_dst (N := 10) rfl ?_); (try (refine gate_guard (by rfl) ?_; dsimp only)); refine box_event ?hg (N := 10) ?hd (cs := #[.int .i64 0, .int .i64 0, .int .i64 0, .string (⟨#[]⟩ : ByteArray), .slice none 0 0, .slice none 0 0]) (t := 83) ?hr ?_; (case hd => rfl); (case hg => rfl); (case hr => first | (go_simp; done) | (go_simp; rfl)); intro gb225 hg w58 hbox hb; have n0_ := Aside0.mk (Kd.R_below tq_34 hb); have n1_ := Aside0.mk (blk_below (g := gb217) (o := .cells #[.int .i64 a0_0, .slice A0_1 l0_1.length c0_1, .slice (some ad224) l0_2.length c0_2] 51 (0, 0)) tq_12 hb); have n2_ := Aside0.mk (blk_below (g := gb223) (o := .cells #[.string (rdOf ByteArray.empty t218 x27_2)] 9 (0, 0)) tq_7 hb); have n3_ := Aside0.mk (below_step tq_18 hb); have n4_ := Aside0.mk (hbox); have n5_ := Aside0.mk (gb_ hg tq_18); have n6_ := Aside0.mk (gb_ hg tq_18); have n7_ := Aside0.mk (ltne_ hg (blk_lt (g := gb217) (o := .cells #[.int .i64 a0_0, .slice A0_1 l0_1.length c0_1, .slice (some ad224) l0_2.length c0_2] 51 (0, 0)) tq_12)); have n8_ := Aside0.mk (gtne_ hg (blk_lt (g := gb217) (o := .cells #[.int .i64 a0_0, .slice A0_1 l0_1.length c0_1, .slice (some ad224) l0_2.length c0_2] 51 (0, 0)) tq_12)); have n9_ := Aside0.mk (ltne_ hg (blk_lt (g := gb223) (o := .cells #[.string (rdOf ByteArray.empty t218 x27_2)] 9 (0, 0)) tq_7)); have n10_ := Aside0.mk (gtne_ hg (blk_lt (g := gb223) (o := .cells #[.string (rdOf ByteArray.empty t218 x27_2)] 9 (0, 0)) tq_7)); clear HO_25 BK217 BK223 HB; have HO_25 := n0_; have BK217 := n1_; have BK223 := n2_; have HB := n3_; have BK225 := n4_; have GW225 := n5_; have GE225 := n6_; have NB217_225 := n7_; have NB225_217 := n8_; have NB223_225 := n9_; have NB225_223 := n10_; clear n0_ n1_ n2_ n3_ n4_ n5_ n6_ n7_ n8_ n9_ n10_; clear hb hbox hg; have hnb59 := NB225_217.out; have hnc59 := NB217_225.out; have hnb60 := NB225_223.out; have hnc60 := NB223_225.out; have hcz61_0 := bc_ BK225.out 0; have hcz61_1 := bc_ BK225.out 1; have hcz61_2 := bc_ BK225.out 2; have hcz61_3 := bc_ BK225.out 3; have hcz61_4 := bc_ BK225.out 4; have hcz61_5 := bc_ BK225.out 5; have hfz61_0 := blk_frozen BK225.out 0; have hfz61_1 := blk_frozen BK225.out 1; have hfz61_2 := blk_frozen BK225.out 2; have hfz61_3 := blk_frozen BK225.out 3; have hfz61_4 := blk_frozen BK225.out 4; have hfz61_5 := blk_frozen BK225.out 5) | ((with_reducible refine gate_callee (f := 70) rfl ?_); refine goesL_ (some 39) rfl rfl Tryd.func70 (by kernel_rfl) rfl #[.slice A224_5 ((rd_T83 l0_2 x7_2).f5).length c224_5, .func (.func 71) #[] #[.pointer (some ⟨gb223, 0, none⟩)]] rfl tq_1 ?_; (with_reducible refine (slices_IndexFunc_Entry_g71.calls _ _ ((rd_T83 l0_2 x7_2).f5) gb223 (rdOf ByteArray.empty t218 x27_2) t226 _ ?side1 ?side2 ?side3 A16.out).mono ?_); (case side1 => exact Kd.C_below HR224_5.out tq_24); (case side2 => exact HC224_5.out); (case side3 => (with_reducible repeat (first | refine blk_drewN ?_ _ | refine blk_drew ?_ | refine blk_alloc ?_ _)); refine blk_far ?_ NB223_225.out _; (with_reducible repeat (first | refine blk_drewN ?_ _ | refine blk_drew ?_ | refine blk_alloc ?_ _)); refine blk_far ?_ NB223_225.out _; (with_reducible repeat (first | refine blk_drewN ?_ _ | refine blk_drew ?_ | refine blk_alloc ?_ _)); refine blk_far ?_ NB223_225.out _; (with_reducible repeat (first | refine blk_drewN ?_ _ | refine blk_drew ?_ | refine blk_alloc ?_ _)); refine blk_far ?_ NB223_225.out _; (with_reducible repeat (first | refine blk_drewN ?_ _ | refine blk_drew ?_ | refine blk_alloc ?_ _)); refine blk_far ?_ NB223_225.out _; (with_reducible repeat (first | refine blk_drewN ?_ _ | refine blk_drew ?_ | refine blk_alloc ?_ _)); refine blk_far ?_ NB223_225.out _; (with_reducible repeat (first | refine blk_drewN ?_ _ | refine blk_drew ?_ | refine blk_alloc ?_ _)); exact BK223.out); rintro e w62 ⟨rfl, hb⟩; refine ⟨_, rfl, ?_⟩; have n0_ := Aside0.mk (Kd.R_below tq_17 hb); have n1_ := Aside0.mk (blk_below (g := gb217) (o := .cells #[.int .i64 a0_0, .slice A0_1 l0_1.length c0_1, .slice (some ad224) l0_2.length c0_2] 51 (0, 0)) tq_11 hb); have n2_ := Aside0.mk (blk_below (g := gb223) (o := .cells #[.string (rdOf ByteArray.empty t218 x27_2)] 9 (0, 0)) tq_10 hb); have n3_ := Aside0.mk (blk_below (g := gb225) (o := .cells #[.int .i64 ((rd_T83 l0_2 x7_2).f0), .int .i64 ((rd_T83 l0_2 x7_2).f1), .int .i64 ((rd_T83 l0_2 x7_2).f2), .string ((rd_T83 l0_2 x7_2).f3), .slice A224_4 ((rd_T83 l0_2 x7_2).f4).length c224_4, .slice A224_5 ((rd_T83 l0_2 x7_2).f5).length c224_5] 83 (0, 0)) tq_3 hb); have n4_ := Aside0.mk (below_step tq_24 hb); clear HO_25 BK217 BK223 BK225 HB; have HO_25 := n0_; have BK217 := n1_; have BK223 := n2_; have BK225 := n3_; have HB := n4_; clear n0_ n1_ n2_ n3_ n4_; (try clear hb); (try clear hb2); (try clear hk); (try clear hi)))
            have n0_ := Aside0.mk (Kd.R_drew HO_25.out)
            have n1_ := Aside0.mk (blk_drew BK217.out)
            have n2_ := Aside0.mk (blk_drew BK223.out)
            have n3_ := Aside0.mk (blk_drew BK225.out)
            have n4_ := Aside0.mk (below_drew1 HB.out)
            clear HO_25 BK217 BK223 BK225 HB
            have HO_25 := n0_
            have BK217 := n1_
            have BK223 := n2_
            have BK225 := n3_
            have HB := n4_
            clear n0_ n1_ n2_ n3_ n4_
            refine start_ (n := 21) (S := fun w' => w'.cell? ⟨gb225, 0, none⟩ = some (.int .i64 ((rd_T83 l0_2 x7_2).f0)) ∧ w'.cell? ⟨gb225, 1, none⟩ = some (.int .i64 ((rd_T83 l0_2 x7_2).f1)) ∧ w'.cell? ⟨gb225, 2, none⟩ = some (.int .i64 ((rd_T83 l0_2 x7_2).f2)) ∧ w'.cell? ⟨gb225, 3, none⟩ = some (.string ((rd_T83 l0_2 x7_2).f3)) ∧ w'.cell? ⟨gb225, 4, none⟩ = some (.slice A224_4 ((rd_T83 l0_2 x7_2).f4).length c224_4) ∧ w'.cell? ⟨gb225, 5, none⟩ = some (.slice A224_5 ((rd_T83 l0_2 x7_2).f5).length c224_5)) (ds := []) bq_11 (by kernel_rfl) rfl rfl ⟨(blk_cell BK225.out 0).trans rfl, (blk_cell BK225.out 1).trans rfl, (blk_cell BK225.out 2).trans rfl, (blk_cell BK225.out 3).trans rfl, (blk_cell BK225.out 4).trans rfl, (blk_cell BK225.out 5).trans rfl⟩ (fun hHeld => ?_); refine with_tabW impl_FindInode.tab10 impl_FindInode.bits10 (fun HT_ HW_ => ?_)
            generalize w62.drew = w63 at HO_25 BK217 BK223 BK225 HB hHeld ⊢
            refine yq_ (i := 0) (N := some 40) bq_12 (any_of HT_.out (by kernel_rfl)) ?_
            refine take_ (i := 1) (N := some 41) (v := ?_) (a' := ?_) bq_13 rfl rfl (take_ofW HT_.out HW_.out (by kernel_rfl)) (fun _ _ _ h => h) (Or.inl ⟨by rfl, ?_⟩) hHeld ?_ ?_
            rotate_left
            ·rintro w' ⟨s0, s1, s2, s3, s4, s5⟩
             go_simp
             with_reducible rfl
            rotate_left
            ·simp only [Act.put, List.setIfInBounds_toArray, List.set_cons_zero, List.set_cons_succ, i64_w, i32_w]
             rfl
            refine yq_ (i := 2) (N := some 42) bq_14 (any_of HT_.out (by kernel_rfl)) ?_
            refine yq_ (i := 3) (N := some 43) bq_15 (any_of HT_.out (by kernel_rfl)) ?_
            refine uq_ (i := 4) (N := some 44) bq_16 (any_of HT_.out (by kernel_rfl)) ?_
            refine uq_ (i := 5) (N := some 45) bq_17 (any_of HT_.out (by kernel_rfl)) ?_
            refine yq_ (i := 6) (N := some 46) bq_18 (any_of HT_.out (by kernel_rfl)) ?_
            refine yq_ (i := 7) (N := some 47) bq_19 (any_of HT_.out (by kernel_rfl)) ?_
            refine uq_ (i := 8) (N := some 48) bq_20 (any_of HT_.out (by kernel_rfl)) ?_
            refine uq_ (i := 9) (N := some 49) bq_28 (any_of HT_.out (by kernel_rfl)) ?_
            refine uq_ (i := 10) (N := some 50) bq_29 (any_of HT_.out (by kernel_rfl)) ?_
            refine uq_ (i := 11) (N := some 51) bq_30 (any_of HT_.out (by kernel_rfl)) ?_
            refine uq_ (i := 12) (N := some 52) bq_31 (any_of HT_.out (by kernel_rfl)) ?_
            refine uq_ (i := 13) (N := some 53) bq_32 (any_of HT_.out (by kernel_rfl)) ?_
            refine uq_ (i := 14) (N := some 54) bq_21 (any_of HT_.out (by kernel_rfl)) ?_
            refine uq_ (i := 15) (N := some 55) bq_22 (any_of HT_.out (by kernel_rfl)) ?_
            refine uq_ (i := 16) (N := some 56) bq_23 (any_of HT_.out (by kernel_rfl)) ?_
            refine uq_ (i := 17) (N := some 57) bq_24 (any_of HT_.out (by kernel_rfl)) ?_
            refine uq_ (i := 18) (N := some 58) bq_25 (any_of HT_.out (by kernel_rfl)) ?_
            refine uq_ (i := 19) (N := some 59) bq_26 (any_of HT_.out (by kernel_rfl)) ?_
            refine yq_ (i := 20) (N := some 60) bq_27 (any_of HT_.out (by kernel_rfl)) ?_
            refine done_ (done_of HT_.out (by kernel_rfl)) ?_
            try go_wp2
            go_ret
            exact ⟨by first | rfl | (simp [errW_none, errW_some] <;> rfl) | (simp [*, errW_none, errW_some] <;> rfl), by repeat (first | (with_reducible first | exact HB.out | apply below_alloc | apply pw_below_drewN | apply below_drew1 | refine below_set ?_ GE217.out | refine below_set ?_ GE223.out | refine below_set ?_ GE225.out) | exact HB.out)⟩
          ·rw [if_neg c15] at H
           exact absurd H (by simp)
         ·rw [if_neg c14] at H
          exact absurd H (by simp)
        ·rw [if_neg c13] at H
         exact absurd H (by simp)
       ·rw [if_neg c12] at H
        exact absurd H (by simp)
      ·rw [if_neg c11] at H
       have c11b0 : decide (x27_2 < (t218.length : Int)) = false := decide_eq_false c11
       clear c11
       obtain rfl := Option.some.inj H
       go_wp2
       go_ret
       exact ⟨by first | rfl | (simp [errW_none, errW_some] <;> rfl) | (simp [*, errW_none, errW_some] <;> rfl), by repeat (first | (with_reducible first | exact HB.out | apply below_alloc | apply pw_below_drewN | apply below_drew1 | refine below_set ?_ GE217.out) | exact HB.out)⟩

end Go.Proofs.YtabgpbmaoelohaaDoor.PFnExactFindInode
