/- Contracts of Go functions, written by a program of ours over the print of the kit: each says that the call returns what the Lean function beside it computes. Conditions: as each theorem states them. -/
import Derived.Test.YtleoknilacjakaaGreatPkFnExactPartWrites
import Derived.Test.YtleoknilacjakaaGreatPFnExactPartWritesx0
import Derived.Test.YtleoknilacjakaaGreatPFnExactPartWritesx24
namespace Go.Proofs.YtleoknilacjakaaGreat.PFnExactPartWrites
open Go.RowKit Go.Proofs.YtleoknilacjakaaGreatW.PrintWords Go.Proofs.YtleoknilacjakaaGreatW.PrintLast Go.Proofs.YtleoknilacjakaaGreatW.PrintMore
attribute [local go_sem] max2_int min2_int max_two min_two max_three min_three max_four min_four   -- for this text's walks alone
set_option linter.unusedVariables false
set_option linter.unusedSimpArgs false

/-! ### laws_heldWriteS: function 14 -/
def laws_heldWriteS.l0 : Nat → List (S53) → Int → Int → Option (Int)
 | 0, _, _, _ => none
 | k + 1, x0, x1, x5 => if x5 < (x0.length : Int) then (if 0 ≤ x5 then (if ((rd_T53 x0 x5).f0) = x1 then ((laws_markText.f k (wrap64 (x1 + 1))).bind fun t611 => (if ((rd_T53 x0 x5).f1).toList = t611.toList then (laws_heldWriteS.l0 k x0 (wrap64 ((wrap64 (x1 + 1)) + 1)) (wrap64 (x5 + 1))) else (some (-1)))) else (some (-1))) else (none)) else (some x1)
def laws_heldWriteS.f (k : Nat) (l0 : List (S53)) (a1 : Int) : Option (Int) := laws_heldWriteS.l0 k l0 a1 0
def laws_heldWriteS.T7 : Bool × List (List Nat × List Nat) := (true, [([], []), ([], []), ([0, 1], [0, 1]), ([2], [2]), ([3], [3]), ([], []), ([5], [5]), ([4, 6], [4, 6])])
def laws_heldWriteS.B7 : List Nat := [0, 0, 3, 7, 15, 0, 32, 127]
theorem laws_heldWriteS.tab7 : rtab .any (opsOf Tryz.f14 7) = laws_heldWriteS.T7 := by kernel_rfl
theorem laws_heldWriteS.bits7 : waitsOk laws_heldWriteS.T7.2 laws_heldWriteS.B7 = true := by kernel_rfl
set_option maxHeartbeats 8000000 in
set_option maxRecDepth 100000 in
theorem laws_heldWriteS.calls (k : Nat) (A0 : Option Addr) (c0 : Nat) (l0 : List (S53)) (a1 : Int) (r : Int) (w : World) (hr0 : Kd.C k53 w A0 l0.length l0) (hc0 : l0.length ≤ c0) (h : laws_heldWriteS.f k l0 a1 = some r) :
  Calls Tryz.prog 14 #[.slice A0 l0.length c0, .int .i64 a1] w fun e w' => e = .returned (.int .i64 r) ∧ Below w.heap.size w w' := by
 have HR0 := Aside0.mk hr0
 have aq := Aside0.mk hc0
 clear hr0 hc0
 have HB := Aside0.mk (Below.refl w.heap.size w)
 unfold laws_heldWriteS.f at h
 have H := h
 clear h
 have H' := Aside0.mk H
 clear H
 go_enter Tryz.func14, Tryz.ntmps14
 go_wp2
 go_loopg [1, 5] k (fun kq v1 v5 w' => ∃ (ab : Int) (a5 : Int), v1 = .int .i64 ab ∧ v5 = .int .i64 a5 ∧ Aside0 (laws_heldWriteS.l0 kq l0 ab a5 = some r) ∧ Aside0 (kq ≤ k) ∧ Aside0 (Below w.heap.size w w'))
 case atStart => exact ⟨(a1), (0), tq_3, tq_3, H', ⟨Nat.le_refl _⟩, ⟨th_⟩⟩
 case round =>
 clear H'
 try clear c1; try clear p2
 obtain ⟨ab, a5, rfl, rfl, HA, HK1, HB⟩ := hrel
 cases gk with
 | zero => exact absurd HA.out (by simp [laws_heldWriteS.l0])
 | succ k1 =>
 have H := HA.out
 clear HA
 simp only [laws_heldWriteS.l0] at H
 by_cases c3 : a5 < (l0.length : Int)
 rotate_left
 ·rw [if_neg c3] at H
  have aj := decide_eq_false c3
  clear c3
  obtain rfl := Option.some.inj H
  go_wp2
  go_ret
  exact ⟨tq_1, th_⟩
 rw [if_pos c3] at H
 have aj := decide_eq_true c3
 clear c3
 obtain ⟨c4, H⟩ := fc_ H
 have ap := decide_eq_true c4
 clear c4
 have an := Aside0.mk H
 clear H
 have p609 : 0 ≤ (a5 : Int) := of_decide_eq_true tq_2
 have q609 : a5 < (l0.length : Int) := of_decide_eq_true tq_2
 obtain ⟨ac, ak, a8, a9⟩ := at_T53 HR0.out a5 p609 q609
 cases ak
 replace a8 := hx_ HB.out a8
 replace a9 := hx_ HB.out a9
 replace p609 := eq_true p609
 replace q609 := eq_true q609
 go_upto_if 18 with (fail)
 (try clear a8 a9)
 have H := an.out
 clear an
 by_cases c6 : ((rd_T53 l0 a5).f0) = ab
 rotate_left
 ·rw [if_neg c6] at H
  have ae := beq_eq_false_iff_ne.mpr c6
  have al := bne_iff_ne.mpr c6
  (first | rw [ae] | (simp only [i64_w, i32_w]; rw [ae]) | skip)
  obtain rfl := Option.some.inj H
  go_wp2
  go_ret
  exact ⟨tq_1, th_⟩
 rw [if_pos c6] at H
 have ae := beq_iff_eq.mpr c6
 have al := bne_eq_false_iff_eq.mpr c6
 clear c6
 (first | rw [ae] | (simp only [i64_w, i32_w]; rw [ae]) | skip)
 obtain ⟨ag, A7, H⟩ := bd_ H
 have ao := Aside0.mk H
 clear H
 try go_wp2
 have n0_ := Aside0.mk (below_drew1 HB.out)
 clear HB
 have HB := n0_
 clear n0_
 have p610 : 0 ≤ (a5 : Int) := of_decide_eq_true tq_2
 have q610 : a5 < (l0.length : Int) := of_decide_eq_true tq_2
 obtain ⟨ah, am, a6, a7⟩ := at_T53 HR0.out a5 p610 q610
 have hw610_1 := a7
 have hw610_0 := a6
 obtain rfl : ac = ah := (by injection am)
 replace a6 := hx_ HB.out a6
 replace a7 := hx_ HB.out a7
 replace p610 := eq_true p610
 replace q610 := eq_true q610
 refine start_ (n := 8) (S := fun w' => w'.cell? (ac.add ((a5).toNat * 2)) = some (.int .i64 ((rd_T53 l0 a5).f0)) ∧ w'.cell? ⟨(ac.add ((a5).toNat * 2)).block, (ac.add ((a5).toNat * 2)).off + 1, none⟩ = some (.string ((rd_T53 l0 a5).f1))) (ds := []) bq_0 (by kernel_rfl) rfl rfl ⟨((HB.out.cell (World.block_lt_of_cell? w _ hw610_0)).trans hw610_0), ((HB.out.cell (World.block_lt_of_cell? w _ hw610_1)).trans hw610_1)⟩ (fun hHeld => ?_); refine with_tabW laws_heldWriteS.tab7 laws_heldWriteS.bits7 (fun HT_ HW_ => ?_)
 generalize wr.drew = w9 at HB a6 a7 hHeld ⊢
 refine yr_ 0 21 bq_1 HT_ ?_
 refine yr_ 1 22 bq_109 HT_ ?_
 refine yr_ 2 23 bq_110 HT_ ?_
 refine yr_ 3 24 bq_111 HT_ ?_
 refine yr_ 5 26 #[true, true, true, true, false, true, false, false] HT_ ?_
 refine tr_ 4 25 bq_2 HT_ HW_ hHeld ?_
 refine one_ (i := 6) (N := some 27) bq_3 rfl rfl (one_of HT_.out (by kernel_rfl)) (by decide) (fun K hK => ?_)
 refine goes_ Tryz.func32 (by kernel_rfl) rfl #[.int .i64 (wrap64 (ab + 1))] (by rfl) rfl rfl tq_0 ?_
 with_reducible refine (laws_markText.calls k1 (wrap64 (ab + 1)) ag _ A7.out).mono ?_
 rintro e ar ⟨rfl, hb⟩
 refine ⟨_, rfl, ?_⟩
 have n0_ := Aside0.mk (below_step th_ hb)
 clear HB
 have HB := n0_
 clear n0_
 (try clear hb)
 refine hK.out _ _ ⟨((HB.out.cell (World.block_lt_of_cell? w _ hw610_0)).trans hw610_0), ((HB.out.cell (World.block_lt_of_cell? w _ hw610_1)).trans hw610_1)⟩ (fun hHeld => ?_)
 clear hK K
 refine nm_ (some 27) ?_
 refine yr_ 7 28 bq_4 HT_ ?_
 refine done_ (done_of HT_.out (by kernel_rfl)) ?_
 go_upto_if 28 with (fail)
 (try clear a6 a7)
 have H := ao.out
 clear ao
 by_cases af : ((rd_T53 l0 a5).f1).toList = ag.toList
 rotate_left
 ·rw [if_neg af] at H
  have aa := beq_eq_false_iff_ne.mpr af
  have ai := bne_iff_ne.mpr af
  (first | rw [aa] | (simp only [i64_w, i32_w]; rw [aa]) | skip)
  obtain rfl := Option.some.inj H
  go_wp2
  go_ret
  exact ⟨tq_1, th_⟩
 rw [if_pos af] at H
 have aa := beq_iff_eq.mpr af
 have ai := bne_eq_false_iff_eq.mpr af
 clear af
 (first | rw [aa] | (simp only [i64_w, i32_w]; rw [aa]) | skip)
 have H' := Aside0.mk H
 clear H
 go_wp2
 go_roundg k1
 case measure => have := HK1.out; omega
 case rel => exact ⟨(wrap64 ((wrap64 (ab + 1)) + 1)), (wrap64 (a5 + 1)), tq_3, tq_3, H', ⟨tq_15⟩, ⟨th_⟩⟩

end Go.Proofs.YtleoknilacjakaaGreat.PFnExactPartWrites
