/- Contracts of Go functions, written by a program of ours over the print of the kit: each says that the call returns what the Lean function beside it computes. Conditions: as each theorem states them. -/
import Derived.Test.YtmddplifammohaaDoorPkFnExactMovedItems
import Derived.Test.YtmddplifammohaaDoorPFnExactMovedItemsx0
import Derived.Test.YtmddplifammohaaDoorPFnExactMovedItemsx10
namespace Go.Proofs.YtmddplifammohaaDoor.PFnExactMovedItems
open Go.RowKit Go.Proofs.YtmddplifammohaaDoorW.PrintWords Go.Proofs.YtmddplifammohaaDoorW.PrintLast Go.Proofs.YtmddplifammohaaDoorW.PrintMore
attribute [local go_sem] max2_int min2_int max_two min_two max_three min_three max_four min_four   -- for this text's walks alone
set_option linter.unusedVariables false
set_option linter.unusedSimpArgs false

/-! ### laws_heldItemS: function 21 -/
def laws_heldItemS.l0 : Nat → List (S36) → Int → Int → Option (Int)
 | 0, _, _, _ => none
 | k + 1, x0, x1, x5 => if x5 < (x0.length : Int) then (if 0 ≤ x5 then ((laws_markText.f k x1).bind fun t319 => (if ((rd_T36 x0 x5).f0).toList = t319.toList then (if (((rd_T36 x0 x5).f1) != ((Int.tmod (wrap64 (x1 + 1)) 3) == 0)) = true then (some (-1)) else ((laws_markText.f k (wrap64 ((wrap64 (x1 + 1)) + 1))).bind fun t322 => (if ((rd_T36 x0 x5).f2).toList = t322.toList then (laws_heldItemS.l0 k x0 (wrap64 ((wrap64 ((wrap64 (x1 + 1)) + 1)) + 1)) (wrap64 (x5 + 1))) else (some (-1))))) else (some (-1)))) else (none)) else (some x1)
def laws_heldItemS.f (k : Nat) (l0 : List (S36)) (a1 : Int) : Option (Int) := laws_heldItemS.l0 k l0 a1 0
theorem laws_heldItemS.mono_l : ∀ k, (∀ y0 y1 y2, LeO (laws_heldItemS.l0 k y0 y1 y2) (laws_heldItemS.l0 (k + 1) y0 y1 y2))
 | 0 => fun _ _ _ r h => by simp [laws_heldItemS.l0] at h
 | k + 1 => by
  have ih0 := laws_heldItemS.mono_l k
  ·intro y0 y1 y2
   unfold laws_heldItemS.l0
   exact mo_7
theorem laws_heldItemS.mono : ∀ a0 a1 k, LeO (laws_heldItemS.f k a0 a1) (laws_heldItemS.f (k + 1) a0 a1) := by
 intro a0 a1 k
 have ih0 := laws_heldItemS.mono_l k
 unfold laws_heldItemS.f
 repeat' first
   | (with_reducible exact ih0 ..)
   | (with_reducible exact laws_markText.mono ..)
   | (with_reducible exact LeO.refl _)
   | (with_reducible exact LeO.none _)
   | (with_reducible refine LeO.ite ?_ ?_)
   | (with_reducible refine LeO.bind ?_ (fun _ => ?_))
   | exact ih0 ..
   | exact laws_markText.mono ..
   | exact LeO.none _
   | refine LeO.ite ?_ ?_
   | refine LeO.bind ?_ (fun _ => ?_)
def laws_heldItemS.T4 : Bool × List (List Nat × List Nat) := (true, [([], []), ([], []), ([0, 1], [0, 1]), ([2], [2]), ([3], [3]), ([], []), ([5], [5]), ([4, 6], [4, 6])])
def laws_heldItemS.B4 : List Nat := [0, 0, 3, 7, 15, 0, 32, 127]
theorem laws_heldItemS.tab4 : rtab .any (opsOf Tryd.f21 4) = laws_heldItemS.T4 := by kernel_rfl
theorem laws_heldItemS.bits4 : waitsOk laws_heldItemS.T4.2 laws_heldItemS.B4 = true := by kernel_rfl
def laws_heldItemS.T10 : Bool × List (List Nat × List Nat) := (true, [([], []), ([], []), ([0, 1], [0, 1]), ([2], [2]), ([3], [3]), ([], []), ([5], [5]), ([4, 6], [4, 6])])
def laws_heldItemS.B10 : List Nat := [0, 0, 3, 7, 15, 0, 32, 127]
theorem laws_heldItemS.tab10 : rtab .any (opsOf Tryd.f21 10) = laws_heldItemS.T10 := by kernel_rfl
theorem laws_heldItemS.bits10 : waitsOk laws_heldItemS.T10.2 laws_heldItemS.B10 = true := by kernel_rfl
set_option maxHeartbeats 8000000 in
set_option maxRecDepth 100000 in
theorem laws_heldItemS.calls (k : Nat) (A0 : Option Addr) (c0 : Nat) (l0 : List (S36)) (a1 : Int) (r : Int) (w : World) (hr0 : Kd.C k36 w A0 l0.length l0) (hc0 : l0.length ≤ c0) (h : laws_heldItemS.f k l0 a1 = some r) :
  Calls Tryd.prog 21 #[.slice A0 l0.length c0, .int .i64 a1] w fun e w' => e = .returned (.int .i64 r) ∧ Below w.heap.size w w' := by
 have HR0 := Aside0.mk hr0
 have HC0 := Aside0.mk hc0
 clear hr0 hc0
 have HB := Aside0.mk (Below.refl w.heap.size w)
 unfold laws_heldItemS.f at h
 have H := h
 clear h
 have H' := Aside0.mk H
 clear H
 go_enter Tryd.func21, Tryd.ntmps21
 go_wp2
 go_loopg [1, 5] k (fun kq v1 v5 w' => ∃ (x1_1 : Int) (x5_1 : Int), v1 = .int .i64 x1_1 ∧ v5 = .int .i64 x5_1 ∧ Aside0 (laws_heldItemS.l0 kq l0 x1_1 x5_1 = some r) ∧ Aside0 (kq ≤ k) ∧ Aside0 (Below w.heap.size w w'))
 case atStart => exact ⟨(a1), (0), tq_4, tq_4, H', ⟨Nat.le_refl _⟩, ⟨th_⟩⟩
 case round =>
 clear H'
 try clear c2; try clear p2
 obtain ⟨x1_1, x5_1, rfl, rfl, HA, HK1, HB⟩ := hrel
 cases gk with
 | zero => exact absurd HA.out (by simp [laws_heldItemS.l0])
 | succ k1 =>
 have H := HA.out
 clear HA
 simp only [laws_heldItemS.l0] at H
 by_cases c3 : x5_1 < (l0.length : Int)
 rotate_left
 ·rw [if_neg c3] at H
  have c3b0 := decide_eq_false c3
  clear c3
  obtain rfl := Option.some.inj H
  go_wp2
  go_ret
  exact ⟨tq_3, th_⟩
 rw [if_pos c3] at H
 have c3b0 := decide_eq_true c3
 clear c3
 obtain ⟨c4, H⟩ := fc_ H
 have c4b0 := decide_eq_true c4
 clear c4
 obtain ⟨t319, A5, H⟩ := bd_ H
 by_cases c6 : ((rd_T36 l0 x5_1).f0).toList = t319.toList
 rotate_left
 ·rw [if_neg c6] at H
  have c6b0 := beq_eq_false_iff_ne.mpr c6
  have c6b1 := bne_iff_ne.mpr c6
  obtain rfl := Option.some.inj H
  try go_wp2
  have n0_ := Aside0.mk (below_drew1 HB.out)
  clear HB
  have HB := n0_
  clear n0_
  have p318 : 0 ≤ (x5_1 : Int) := of_decide_eq_true tq_1
  have q318 : x5_1 < (l0.length : Int) := of_decide_eq_true tq_1
  obtain ⟨ad318, e318, hx318_0, hx318_1, hx318_2⟩ := at_T36 HR0.out x5_1 p318 q318
  have hw318_2 := hx318_2
  have hw318_1 := hx318_1
  have hw318_0 := hx318_0
  cases e318
  replace hx318_0 := hx_ HB.out hx318_0
  replace hx318_1 := hx_ HB.out hx318_1
  replace hx318_2 := hx_ HB.out hx318_2
  replace p318 := eq_true p318
  replace q318 := eq_true q318
  refine start_ (n := 8) (S := fun w' => w'.cell? (ad318.add ((x5_1).toNat * 3)) = some (.string ((rd_T36 l0 x5_1).f0)) ∧ w'.cell? ⟨(ad318.add ((x5_1).toNat * 3)).block, (ad318.add ((x5_1).toNat * 3)).off + 1, none⟩ = some (.bool ((rd_T36 l0 x5_1).f1)) ∧ w'.cell? ⟨(ad318.add ((x5_1).toNat * 3)).block, (ad318.add ((x5_1).toNat * 3)).off + 2, none⟩ = some (.string ((rd_T36 l0 x5_1).f2))) (ds := []) bq_1 (by kernel_rfl) rfl rfl ⟨((HB.out.cell (World.block_lt_of_cell? w _ hw318_0)).trans hw318_0), ((HB.out.cell (World.block_lt_of_cell? w _ hw318_1)).trans hw318_1), ((HB.out.cell (World.block_lt_of_cell? w _ hw318_2)).trans hw318_2)⟩ (fun hHeld => ?_); refine with_tabW laws_heldItemS.tab4 laws_heldItemS.bits4 (fun HT_ HW_ => ?_)
  generalize wr.drew = w20 at HB hx318_0 hx318_1 hx318_2 hHeld ⊢
  refine yr_ 0 12 bq_2 HT_ ?_
  refine yr_ 1 13 bq_3 HT_ ?_
  refine yr_ 2 14 bq_4 HT_ ?_
  refine yr_ 3 15 bq_5 HT_ ?_
  refine yr_ 5 17 bq_6 HT_ ?_
  refine tr_ 4 16 bq_7 HT_ HW_ hHeld ?_
  refine one_ (i := 6) (N := some 18) bq_8 rfl rfl (one_of HT_.out (by kernel_rfl)) (by decide) (fun K hK => ?_)
  refine goes_ Tryd.func31 (by kernel_rfl) rfl #[.int .i64 x1_1] (by rfl) rfl rfl tq_2 ?_
  with_reducible refine (laws_markText.calls k1 x1_1 t319 _ A5.out).mono ?_
  rintro e w21 ⟨rfl, hb⟩
  refine ⟨_, rfl, ?_⟩
  have n0_ := Aside0.mk (below_step th_ hb)
  clear HB
  have HB := n0_
  clear n0_
  (try clear hb)
  refine hK.out _ _ ⟨((HB.out.cell (World.block_lt_of_cell? w _ hw318_0)).trans hw318_0), ((HB.out.cell (World.block_lt_of_cell? w _ hw318_1)).trans hw318_1), ((HB.out.cell (World.block_lt_of_cell? w _ hw318_2)).trans hw318_2)⟩ (fun hHeld => ?_)
  clear hK K
  refine nm_ (some 18) ?_
  refine yr_ 7 19 bq_9 HT_ ?_
  refine done_ (done_of HT_.out (by kernel_rfl)) ?_
  try go_wp2
  go_ret
  exact ⟨tq_3, th_⟩
 rw [if_pos c6] at H
 have c6b0 := beq_iff_eq.mpr c6
 have c6b1 := bne_eq_false_iff_eq.mpr c6
 clear c6
 by_cases c7 : (((rd_T36 l0 x5_1).f1) != ((Int.tmod (wrap64 (x1_1 + 1)) 3) == 0)) = true
 ·rw [if_pos c7] at H
  have c7b0 : (((rd_T36 l0 x5_1).f1) != ((Int.tmod (wrap64 (x1_1 + 1)) 3) == 0)) = true := c7
  (try (have c7b1 : decide (((rd_T36 l0 x5_1).f1) = ((Int.tmod (wrap64 (x1_1 + 1)) 3) == 0)) = false := by simpa using c7))
  (try (have c7b2 : (((rd_T36 l0 x5_1).f1) == ((Int.tmod (wrap64 (x1_1 + 1)) 3) == 0)) = false := by simpa using c7))
  (try (have c7b3 : ¬ (((rd_T36 l0 x5_1).f1) = ((Int.tmod (wrap64 (x1_1 + 1)) 3) == 0)) := by simpa using c7))
  clear c7
  obtain rfl := Option.some.inj H
  try go_wp2
  have n0_ := Aside0.mk (below_drew1 HB.out)
  clear HB
  have HB := n0_
  clear n0_
  have p318 : 0 ≤ (x5_1 : Int) := of_decide_eq_true tq_1
  have q318 : x5_1 < (l0.length : Int) := of_decide_eq_true tq_1
  obtain ⟨ad318, e318, hx318_0, hx318_1, hx318_2⟩ := at_T36 HR0.out x5_1 p318 q318
  have hw318_2 := hx318_2
  have hw318_1 := hx318_1
  have hw318_0 := hx318_0
  cases e318
  replace hx318_0 := hx_ HB.out hx318_0
  replace hx318_1 := hx_ HB.out hx318_1
  replace hx318_2 := hx_ HB.out hx318_2
  replace p318 := eq_true p318
  replace q318 := eq_true q318
  refine start_ (n := 8) (S := fun w' => w'.cell? (ad318.add ((x5_1).toNat * 3)) = some (.string ((rd_T36 l0 x5_1).f0)) ∧ w'.cell? ⟨(ad318.add ((x5_1).toNat * 3)).block, (ad318.add ((x5_1).toNat * 3)).off + 1, none⟩ = some (.bool ((rd_T36 l0 x5_1).f1)) ∧ w'.cell? ⟨(ad318.add ((x5_1).toNat * 3)).block, (ad318.add ((x5_1).toNat * 3)).off + 2, none⟩ = some (.string ((rd_T36 l0 x5_1).f2))) (ds := []) bq_1 (by kernel_rfl) rfl rfl ⟨((HB.out.cell (World.block_lt_of_cell? w _ hw318_0)).trans hw318_0), ((HB.out.cell (World.block_lt_of_cell? w _ hw318_1)).trans hw318_1), ((HB.out.cell (World.block_lt_of_cell? w _ hw318_2)).trans hw318_2)⟩ (fun hHeld => ?_); refine with_tabW laws_heldItemS.tab4 laws_heldItemS.bits4 (fun HT_ HW_ => ?_)
  generalize wr.drew = w8 at HB hx318_0 hx318_1 hx318_2 hHeld ⊢
  refine yr_ 0 12 bq_2 HT_ ?_
  refine yr_ 1 13 bq_3 HT_ ?_
  refine yr_ 2 14 bq_4 HT_ ?_
  refine yr_ 3 15 bq_5 HT_ ?_
  refine yr_ 5 17 bq_6 HT_ ?_
  refine tr_ 4 16 bq_7 HT_ HW_ hHeld ?_
  refine one_ (i := 6) (N := some 18) bq_8 rfl rfl (one_of HT_.out (by kernel_rfl)) (by decide) (fun K hK => ?_)
  refine goes_ Tryd.func31 (by kernel_rfl) rfl #[.int .i64 x1_1] (by rfl) rfl rfl tq_2 ?_
  with_reducible refine (laws_markText.calls k1 x1_1 t319 _ A5.out).mono ?_
  rintro e w9 ⟨rfl, hb⟩
  refine ⟨_, rfl, ?_⟩
  have n0_ := Aside0.mk (below_step th_ hb)
  clear HB
  have HB := n0_
  clear n0_
  (try clear hb)
  refine hK.out _ _ ⟨((HB.out.cell (World.block_lt_of_cell? w _ hw318_0)).trans hw318_0), ((HB.out.cell (World.block_lt_of_cell? w _ hw318_1)).trans hw318_1), ((HB.out.cell (World.block_lt_of_cell? w _ hw318_2)).trans hw318_2)⟩ (fun hHeld => ?_)
  clear hK K
  refine nm_ (some 18) ?_
  refine yr_ 7 19 bq_9 HT_ ?_
  refine done_ (done_of HT_.out (by kernel_rfl)) ?_
  have p320 : 0 ≤ (x5_1 : Int) := of_decide_eq_true tq_1
  have q320 : x5_1 < (l0.length : Int) := of_decide_eq_true tq_1
  obtain ⟨ad320, e320, hx320_0, hx320_1, hx320_2⟩ := at_T36 HR0.out x5_1 p320 q320
  obtain rfl : ad318 = ad320 := (by injection e320)
  replace hx320_0 := hx_ HB.out hx320_0
  replace hx320_1 := hx_ HB.out hx320_1
  replace hx320_2 := hx_ HB.out hx320_2
  replace p320 := eq_true p320
  replace q320 := eq_true q320
  try go_wp2
  go_ret
  exact ⟨tq_3, th_⟩
 rw [if_neg c7] at H
 have c7b0 : (((rd_T36 l0 x5_1).f1) != ((Int.tmod (wrap64 (x1_1 + 1)) 3) == 0)) = false := by simpa using c7
 (try (have c7b1 : decide (((rd_T36 l0 x5_1).f1) = ((Int.tmod (wrap64 (x1_1 + 1)) 3) == 0)) = true := by simpa using c7))
 (try (have c7b2 : (((rd_T36 l0 x5_1).f1) == ((Int.tmod (wrap64 (x1_1 + 1)) 3) == 0)) = true := by simpa using c7))
 clear c7
 obtain ⟨t322, A10, H⟩ := bd_ H
 by_cases c11 : ((rd_T36 l0 x5_1).f2).toList = t322.toList
 rotate_left
 ·rw [if_neg c11] at H
  have c11b0 := beq_eq_false_iff_ne.mpr c11
  have c11b1 := bne_iff_ne.mpr c11
  obtain rfl := Option.some.inj H
  try go_wp2
  have n0_ := Aside0.mk (below_drew1 HB.out)
  clear HB
  have HB := n0_
  clear n0_
  have p318 : 0 ≤ (x5_1 : Int) := of_decide_eq_true tq_1
  have q318 : x5_1 < (l0.length : Int) := of_decide_eq_true tq_1
  obtain ⟨ad318, e318, hx318_0, hx318_1, hx318_2⟩ := at_T36 HR0.out x5_1 p318 q318
  have hw318_2 := hx318_2
  have hw318_1 := hx318_1
  have hw318_0 := hx318_0
  cases e318
  replace hx318_0 := hx_ HB.out hx318_0
  replace hx318_1 := hx_ HB.out hx318_1
  replace hx318_2 := hx_ HB.out hx318_2
  replace p318 := eq_true p318
  replace q318 := eq_true q318
  refine start_ (n := 8) (S := fun w' => w'.cell? (ad318.add ((x5_1).toNat * 3)) = some (.string ((rd_T36 l0 x5_1).f0)) ∧ w'.cell? ⟨(ad318.add ((x5_1).toNat * 3)).block, (ad318.add ((x5_1).toNat * 3)).off + 1, none⟩ = some (.bool ((rd_T36 l0 x5_1).f1)) ∧ w'.cell? ⟨(ad318.add ((x5_1).toNat * 3)).block, (ad318.add ((x5_1).toNat * 3)).off + 2, none⟩ = some (.string ((rd_T36 l0 x5_1).f2))) (ds := []) bq_1 (by kernel_rfl) rfl rfl ⟨((HB.out.cell (World.block_lt_of_cell? w _ hw318_0)).trans hw318_0), ((HB.out.cell (World.block_lt_of_cell? w _ hw318_1)).trans hw318_1), ((HB.out.cell (World.block_lt_of_cell? w _ hw318_2)).trans hw318_2)⟩ (fun hHeld => ?_); refine with_tabW laws_heldItemS.tab4 laws_heldItemS.bits4 (fun HT_ HW_ => ?_)
  generalize wr.drew = w16 at HB hx318_0 hx318_1 hx318_2 hHeld ⊢
  refine yr_ 0 12 bq_2 HT_ ?_
  refine yr_ 1 13 bq_3 HT_ ?_
  refine yr_ 2 14 bq_4 HT_ ?_
  refine yr_ 3 15 bq_5 HT_ ?_
  refine yr_ 5 17 bq_6 HT_ ?_
  refine tr_ 4 16 bq_7 HT_ HW_ hHeld ?_
  refine one_ (i := 6) (N := some 18) bq_8 rfl rfl (one_of HT_.out (by kernel_rfl)) (by decide) (fun K hK => ?_)
  refine goes_ Tryd.func31 (by kernel_rfl) rfl #[.int .i64 x1_1] (by rfl) rfl rfl tq_2 ?_
  with_reducible refine (laws_markText.calls k1 x1_1 t319 _ A5.out).mono ?_
  rintro e w17 ⟨rfl, hb⟩
  refine ⟨_, rfl, ?_⟩
  have n0_ := Aside0.mk (below_step th_ hb)
  clear HB
  have HB := n0_
  clear n0_
  (try clear hb)
  refine hK.out _ _ ⟨((HB.out.cell (World.block_lt_of_cell? w _ hw318_0)).trans hw318_0), ((HB.out.cell (World.block_lt_of_cell? w _ hw318_1)).trans hw318_1), ((HB.out.cell (World.block_lt_of_cell? w _ hw318_2)).trans hw318_2)⟩ (fun hHeld => ?_)
  clear hK K
  refine nm_ (some 18) ?_
  refine yr_ 7 19 bq_9 HT_ ?_
  refine done_ (done_of HT_.out (by kernel_rfl)) ?_
  have p320 : 0 ≤ (x5_1 : Int) := of_decide_eq_true tq_1
  have q320 : x5_1 < (l0.length : Int) := of_decide_eq_true tq_1
  obtain ⟨ad320, e320, hx320_0, hx320_1, hx320_2⟩ := at_T36 HR0.out x5_1 p320 q320
  obtain rfl : ad318 = ad320 := (by injection e320)
  replace hx320_0 := hx_ HB.out hx320_0
  replace hx320_1 := hx_ HB.out hx320_1
  replace hx320_2 := hx_ HB.out hx320_2
  replace p320 := eq_true p320
  replace q320 := eq_true q320
  try go_wp2
  have n0_ := Aside0.mk (below_drew1 HB.out)
  clear HB
  have HB := n0_
  clear n0_
  have p321 : 0 ≤ (x5_1 : Int) := of_decide_eq_true tq_1
  have q321 : x5_1 < (l0.length : Int) := of_decide_eq_true tq_1
  obtain ⟨ad321, e321, hx321_0, hx321_1, hx321_2⟩ := at_T36 HR0.out x5_1 p321 q321
  have hw321_2 := hx321_2
  have hw321_1 := hx321_1
  have hw321_0 := hx321_0
  obtain rfl : ad318 = ad321 := (by injection e321)
  replace hx321_0 := hx_ HB.out hx321_0
  replace hx321_1 := hx_ HB.out hx321_1
  replace hx321_2 := hx_ HB.out hx321_2
  replace p321 := eq_true p321
  replace q321 := eq_true q321
  refine start_ (n := 8) (S := fun w' => w'.cell? (ad318.add ((x5_1).toNat * 3)) = some (.string ((rd_T36 l0 x5_1).f0)) ∧ w'.cell? ⟨(ad318.add ((x5_1).toNat * 3)).block, (ad318.add ((x5_1).toNat * 3)).off + 1, none⟩ = some (.bool ((rd_T36 l0 x5_1).f1)) ∧ w'.cell? ⟨(ad318.add ((x5_1).toNat * 3)).block, (ad318.add ((x5_1).toNat * 3)).off + 2, none⟩ = some (.string ((rd_T36 l0 x5_1).f2))) (ds := []) bq_1 (by kernel_rfl) rfl rfl ⟨((HB.out.cell (World.block_lt_of_cell? w _ hw321_0)).trans hw321_0), ((HB.out.cell (World.block_lt_of_cell? w _ hw321_1)).trans hw321_1), ((HB.out.cell (World.block_lt_of_cell? w _ hw321_2)).trans hw321_2)⟩ (fun hHeld => ?_); refine with_tabW laws_heldItemS.tab10 laws_heldItemS.bits10 (fun HT_ HW_ => ?_)
  generalize w17.drew = w18 at HB hx321_0 hx321_1 hx321_2 hHeld ⊢
  refine yr_ 0 33 bq_2 HT_ ?_
  refine yr_ 1 34 bq_3 HT_ ?_
  refine yr_ 2 35 bq_4 HT_ ?_
  refine yr_ 3 36 bq_5 HT_ ?_
  refine yr_ 5 38 bq_6 HT_ ?_
  refine tr_ 4 37 bq_7 HT_ HW_ hHeld ?_
  refine one_ (i := 6) (N := some 39) bq_8 rfl rfl (one_of HT_.out (by kernel_rfl)) (by decide) (fun K hK => ?_)
  refine goes_ Tryd.func31 (by kernel_rfl) rfl #[.int .i64 (wrap64 ((wrap64 (x1_1 + 1)) + 1))] (by rfl) rfl rfl tq_2 ?_
  with_reducible refine (laws_markText.calls k1 (wrap64 ((wrap64 (x1_1 + 1)) + 1)) t322 _ A10.out).mono ?_
  rintro e w19 ⟨rfl, hb⟩
  refine ⟨_, rfl, ?_⟩
  have n0_ := Aside0.mk (below_step th_ hb)
  clear HB
  have HB := n0_
  clear n0_
  (try clear hb)
  refine hK.out _ _ ⟨((HB.out.cell (World.block_lt_of_cell? w _ hw321_0)).trans hw321_0), ((HB.out.cell (World.block_lt_of_cell? w _ hw321_1)).trans hw321_1), ((HB.out.cell (World.block_lt_of_cell? w _ hw321_2)).trans hw321_2)⟩ (fun hHeld => ?_)
  clear hK K
  refine nm_ (some 39) ?_
  refine yr_ 7 40 bq_9 HT_ ?_
  refine done_ (done_of HT_.out (by kernel_rfl)) ?_
  try go_wp2
  go_ret
  exact ⟨tq_3, th_⟩
 rw [if_pos c11] at H
 have c11b0 := beq_iff_eq.mpr c11
 have c11b1 := bne_eq_false_iff_eq.mpr c11
 clear c11
 have H' := Aside0.mk H
 clear H
 try go_wp2
 have n0_ := Aside0.mk (below_drew1 HB.out)
 clear HB
 have HB := n0_
 clear n0_
 have p318 : 0 ≤ (x5_1 : Int) := of_decide_eq_true tq_1
 have q318 : x5_1 < (l0.length : Int) := of_decide_eq_true tq_1
 obtain ⟨ad318, e318, hx318_0, hx318_1, hx318_2⟩ := at_T36 HR0.out x5_1 p318 q318
 have hw318_2 := hx318_2
 have hw318_1 := hx318_1
 have hw318_0 := hx318_0
 cases e318
 replace hx318_0 := hx_ HB.out hx318_0
 replace hx318_1 := hx_ HB.out hx318_1
 replace hx318_2 := hx_ HB.out hx318_2
 replace p318 := eq_true p318
 replace q318 := eq_true q318
 refine start_ (n := 8) (S := fun w' => w'.cell? (ad318.add ((x5_1).toNat * 3)) = some (.string ((rd_T36 l0 x5_1).f0)) ∧ w'.cell? ⟨(ad318.add ((x5_1).toNat * 3)).block, (ad318.add ((x5_1).toNat * 3)).off + 1, none⟩ = some (.bool ((rd_T36 l0 x5_1).f1)) ∧ w'.cell? ⟨(ad318.add ((x5_1).toNat * 3)).block, (ad318.add ((x5_1).toNat * 3)).off + 2, none⟩ = some (.string ((rd_T36 l0 x5_1).f2))) (ds := []) bq_1 (by kernel_rfl) rfl rfl ⟨((HB.out.cell (World.block_lt_of_cell? w _ hw318_0)).trans hw318_0), ((HB.out.cell (World.block_lt_of_cell? w _ hw318_1)).trans hw318_1), ((HB.out.cell (World.block_lt_of_cell? w _ hw318_2)).trans hw318_2)⟩ (fun hHeld => ?_); refine with_tabW laws_heldItemS.tab4 laws_heldItemS.bits4 (fun HT_ HW_ => ?_)
 generalize wr.drew = w12 at HB hx318_0 hx318_1 hx318_2 hHeld ⊢
 refine yr_ 0 12 bq_2 HT_ ?_
 refine yr_ 1 13 bq_3 HT_ ?_
 refine yr_ 2 14 bq_4 HT_ ?_
 refine yr_ 3 15 bq_5 HT_ ?_
 refine yr_ 5 17 bq_6 HT_ ?_
 refine tr_ 4 16 bq_7 HT_ HW_ hHeld ?_
 refine one_ (i := 6) (N := some 18) bq_8 rfl rfl (one_of HT_.out (by kernel_rfl)) (by decide) (fun K hK => ?_)
 refine goes_ Tryd.func31 (by kernel_rfl) rfl #[.int .i64 x1_1] (by rfl) rfl rfl tq_2 ?_
 with_reducible refine (laws_markText.calls k1 x1_1 t319 _ A5.out).mono ?_
 rintro e w13 ⟨rfl, hb⟩
 refine ⟨_, rfl, ?_⟩
 have n0_ := Aside0.mk (below_step th_ hb)
 clear HB
 have HB := n0_
 clear n0_
 (try clear hb)
 refine hK.out _ _ ⟨((HB.out.cell (World.block_lt_of_cell? w _ hw318_0)).trans hw318_0), ((HB.out.cell (World.block_lt_of_cell? w _ hw318_1)).trans hw318_1), ((HB.out.cell (World.block_lt_of_cell? w _ hw318_2)).trans hw318_2)⟩ (fun hHeld => ?_)
 clear hK K
 refine nm_ (some 18) ?_
 refine yr_ 7 19 bq_9 HT_ ?_
 refine done_ (done_of HT_.out (by kernel_rfl)) ?_
 have p320 : 0 ≤ (x5_1 : Int) := of_decide_eq_true tq_1
 have q320 : x5_1 < (l0.length : Int) := of_decide_eq_true tq_1
 obtain ⟨ad320, e320, hx320_0, hx320_1, hx320_2⟩ := at_T36 HR0.out x5_1 p320 q320
 obtain rfl : ad318 = ad320 := (by injection e320)
 replace hx320_0 := hx_ HB.out hx320_0
 replace hx320_1 := hx_ HB.out hx320_1
 replace hx320_2 := hx_ HB.out hx320_2
 replace p320 := eq_true p320
 replace q320 := eq_true q320
 try go_wp2
 have n0_ := Aside0.mk (below_drew1 HB.out)
 clear HB
 have HB := n0_
 clear n0_
 have p321 : 0 ≤ (x5_1 : Int) := of_decide_eq_true tq_1
 have q321 : x5_1 < (l0.length : Int) := of_decide_eq_true tq_1
 obtain ⟨ad321, e321, hx321_0, hx321_1, hx321_2⟩ := at_T36 HR0.out x5_1 p321 q321
 have hw321_2 := hx321_2
 have hw321_1 := hx321_1
 have hw321_0 := hx321_0
 obtain rfl : ad318 = ad321 := (by injection e321)
 replace hx321_0 := hx_ HB.out hx321_0
 replace hx321_1 := hx_ HB.out hx321_1
 replace hx321_2 := hx_ HB.out hx321_2
 replace p321 := eq_true p321
 replace q321 := eq_true q321
 refine start_ (n := 8) (S := fun w' => w'.cell? (ad318.add ((x5_1).toNat * 3)) = some (.string ((rd_T36 l0 x5_1).f0)) ∧ w'.cell? ⟨(ad318.add ((x5_1).toNat * 3)).block, (ad318.add ((x5_1).toNat * 3)).off + 1, none⟩ = some (.bool ((rd_T36 l0 x5_1).f1)) ∧ w'.cell? ⟨(ad318.add ((x5_1).toNat * 3)).block, (ad318.add ((x5_1).toNat * 3)).off + 2, none⟩ = some (.string ((rd_T36 l0 x5_1).f2))) (ds := []) bq_1 (by kernel_rfl) rfl rfl ⟨((HB.out.cell (World.block_lt_of_cell? w _ hw321_0)).trans hw321_0), ((HB.out.cell (World.block_lt_of_cell? w _ hw321_1)).trans hw321_1), ((HB.out.cell (World.block_lt_of_cell? w _ hw321_2)).trans hw321_2)⟩ (fun hHeld => ?_); refine with_tabW laws_heldItemS.tab10 laws_heldItemS.bits10 (fun HT_ HW_ => ?_)
 generalize w13.drew = w14 at HB hx321_0 hx321_1 hx321_2 hHeld ⊢
 refine yr_ 0 33 bq_2 HT_ ?_
 refine yr_ 1 34 bq_3 HT_ ?_
 refine yr_ 2 35 bq_4 HT_ ?_
 refine yr_ 3 36 bq_5 HT_ ?_
 refine yr_ 5 38 bq_6 HT_ ?_
 refine tr_ 4 37 bq_7 HT_ HW_ hHeld ?_
 refine one_ (i := 6) (N := some 39) bq_8 rfl rfl (one_of HT_.out (by kernel_rfl)) (by decide) (fun K hK => ?_)
 refine goes_ Tryd.func31 (by kernel_rfl) rfl #[.int .i64 (wrap64 ((wrap64 (x1_1 + 1)) + 1))] (by rfl) rfl rfl tq_2 ?_
 with_reducible refine (laws_markText.calls k1 (wrap64 ((wrap64 (x1_1 + 1)) + 1)) t322 _ A10.out).mono ?_
 rintro e w15 ⟨rfl, hb⟩
 refine ⟨_, rfl, ?_⟩
 have n0_ := Aside0.mk (below_step th_ hb)
 clear HB
 have HB := n0_
 clear n0_
 (try clear hb)
 refine hK.out _ _ ⟨((HB.out.cell (World.block_lt_of_cell? w _ hw321_0)).trans hw321_0), ((HB.out.cell (World.block_lt_of_cell? w _ hw321_1)).trans hw321_1), ((HB.out.cell (World.block_lt_of_cell? w _ hw321_2)).trans hw321_2)⟩ (fun hHeld => ?_)
 clear hK K
 refine nm_ (some 39) ?_
 refine yr_ 7 40 bq_9 HT_ ?_
 refine done_ (done_of HT_.out (by kernel_rfl)) ?_
 try go_wp2
 go_roundg k1
 case measure => have := HK1.out; omega
 case rel => exact ⟨(wrap64 ((wrap64 ((wrap64 (x1_1 + 1)) + 1)) + 1)), (wrap64 (x5_1 + 1)), tq_4, tq_4, H', ⟨tq_22⟩, ⟨th_⟩⟩

/-! ### laws_heldView: function 10 -/
def laws_heldView.f (k : Nat) (l0_0 : List (S36)) (a1 : Int) : Option (Int) := (laws_heldItemS.f k l0_0 a1).bind fun t324 => (if t324 < 0 then (some (-1)) else (some t324))
theorem laws_heldView.mono : ∀ a0 a1 k, LeO (laws_heldView.f k a0 a1) (laws_heldView.f (k + 1) a0 a1) := by
 intro a0 a1 k
 unfold laws_heldView.f
 repeat' first
   | (with_reducible exact laws_heldItemS.mono ..)
   | (with_reducible exact LeO.refl _)
   | (with_reducible exact LeO.none _)
   | (with_reducible refine LeO.ite ?_ ?_)
   | (with_reducible refine LeO.bind ?_ (fun _ => ?_))
   | exact laws_heldItemS.mono ..
   | exact LeO.none _
   | refine LeO.ite ?_ ?_
   | refine LeO.bind ?_ (fun _ => ?_)
set_option maxHeartbeats 8000000 in
set_option maxRecDepth 100000 in
theorem laws_heldView.calls (k : Nat) (A0_0 : Option Addr) (c0_0 : Nat) (l0_0 : List (S36)) (a1 : Int) (r : Int) (w : World) (hr0_0 : Kd.C k36 w A0_0 l0_0.length l0_0) (hc0_0 : l0_0.length ≤ c0_0) (h : laws_heldView.f k l0_0 a1 = some r) :
  Calls Tryd.prog 10 #[.agg #[.slice A0_0 l0_0.length c0_0], .int .i64 a1] w fun e w' => e = .returned (.int .i64 r) ∧ Below w.heap.size w w' := by
 have hu28 := Tryd.underlying28
 have HR0_0 := Aside0.mk hr0_0
 have HC0_0 := Aside0.mk hc0_0
 clear hr0_0 hc0_0
 have HB := Aside0.mk (Below.refl w.heap.size w)
 unfold laws_heldView.f at h
 have H := h
 clear h
 obtain ⟨t324, A3, H⟩ := bd_ H
 have HC4 := Aside0.mk H
 clear H
 go_enter Tryd.func10, Tryd.ntmps10
 go_upto_if 10 with (first | ((with_reducible refine gate_dst (N := 2) rfl ?_); refine be_ 2 (cs := #[.slice A0_0 l0_0.length c0_0]) 28 ?_; intro gb323 hg w5 hbox hb; have z_ := bx0_ th_ hb hbox hg; clear HB; obtain ⟨HB, BK323, GW323, GE323⟩ := z_; clear hb hbox hg; have hcz6_0 := bc_ BK323.out 0; have hfz6_0 := blk_frozen BK323.out 0) | ((with_reducible refine gate_callee (f := 21) rfl ?_); refine goesL_ (some 8) rfl rfl Tryd.func21 (by kernel_rfl) rfl #[.slice A0_0 l0_0.length c0_0, .int .i64 a1] rfl tq_2 ?_; (with_reducible refine (laws_heldItemS.calls k _ _ l0_0 a1 t324 _ ?side1 ?side2 A3.out).mono ?_); (case side1 => exact tq_5); (case side2 => exact HC0_0.out); rintro e w7 ⟨rfl, hb⟩; refine ⟨_, rfl, ?_⟩; have z_ := bw1_ (kb_ BK323) th_ hb; clear BK323 HB; obtain ⟨BK323, HB⟩ := z_; (try clear hb)))
 (try simp only [Act.put, List.setIfInBounds_toArray, List.set_cons_zero, List.set_cons_succ])
 (try clear hcz6_0)
 (try clear hfz6_0)
 have H := HC4.out
 clear HC4
 by_cases c8 : t324 < 0
 ·rw [if_pos c8] at H
  have c8b0 := decide_eq_true c8
  clear c8
  (first | rw [c8b0] | (simp only [i64_w, i32_w]; rw [c8b0]) | skip)
  obtain rfl := Option.some.inj H
  go_wp2
  go_ret
  exact ⟨tq_3, th_⟩
 rw [if_neg c8] at H
 have c8b0 := decide_eq_false c8
 clear c8
 (first | rw [c8b0] | (simp only [i64_w, i32_w]; rw [c8b0]) | skip)
 obtain rfl := Option.some.inj H
 go_wp2
 go_ret
 exact ⟨tq_3, th_⟩

end Go.Proofs.YtmddplifammohaaDoor.PFnExactMovedItems
