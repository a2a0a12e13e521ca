/- Contracts of Go functions, written by a program of ours over the print of the kit: each says that the call returns what the Lean function beside it computes. Conditions: as each theorem states them. -/
import Derived.Test.YtjfhddenmnjgbaaDoorPkFnExactReadInode
import Derived.Test.YtjfhddenmnjgbaaDoorPFnExactReadInodex0
import Derived.Test.YtjfhddenmnjgbaaDoorPFnExactReadInodex15
namespace Go.Proofs.YtjfhddenmnjgbaaDoor.PFnExactReadInode
open Go.RowKit Go.Proofs.YtjfhddenmnjgbaaDoorW.PrintWords Go.Proofs.YtjfhddenmnjgbaaDoorW.PrintLast Go.Proofs.YtjfhddenmnjgbaaDoorW.PrintMore
attribute [local go_sem] max2_int min2_int max_two min_two max_three min_three max_four min_four setCell_drewN   -- for this text's walks alone
set_option linter.unusedVariables false
set_option linter.unusedSimpArgs false

/-! ### laws_heldRecS: function 46 -/
def laws_heldRecS.l0 : Nat → List (S42) → Int → Int → Option (Int)
 | 0, _, _, _ => none
 | k + 1, x0, x1, x5 => if x5 < (x0.length : Int) then (if 0 ≤ x5 then (if ((rd_T42 x0 x5).f0) = x1 then (if ((rd_T42 x0 x5).f1) = (wrap64 (x1 + 1)) then ((laws_markText.f k (wrap64 ((wrap64 (x1 + 1)) + 1))).bind fun t376 => (if ((rd_T42 x0 x5).f2).toList = t376.toList then (laws_heldRecS.l0 k x0 (wrap64 ((wrap64 ((wrap64 (x1 + 1)) + 1)) + 1)) (wrap64 (x5 + 1))) else (some (-1)))) else (some (-1))) else (some (-1))) else (none)) else (some x1)
def laws_heldRecS.f (k : Nat) (l0 : List (S42)) (a1 : Int) : Option (Int) := laws_heldRecS.l0 k l0 a1 0
theorem laws_heldRecS.mono_l : ∀ k, (∀ y0 y1 y2, LeO (laws_heldRecS.l0 k y0 y1 y2) (laws_heldRecS.l0 (k + 1) y0 y1 y2))
 | 0 => fun _ _ _ r h => by simp [laws_heldRecS.l0] at h
 | k + 1 => by
  have ih0 := laws_heldRecS.mono_l k
  ·intro y0 y1 y2
   unfold laws_heldRecS.l0
   exact mo_7
theorem laws_heldRecS.mono : ∀ a0 a1 k, LeO (laws_heldRecS.f k a0 a1) (laws_heldRecS.f (k + 1) a0 a1) := by
 intro a0 a1 k
 have ih0 := laws_heldRecS.mono_l k
 unfold laws_heldRecS.f
 repeat' first
   | (with_reducible exact ih0 ..)
   | (with_reducible exact laws_markText.mono ..)
   | (with_reducible exact LeO.refl _)
   | (with_reducible exact LeO.none _)
   | (with_reducible refine LeO.ite ?_ ?_)
   | (with_reducible refine LeO.bind ?_ (fun _ => ?_))
   | exact ih0 ..
   | exact laws_markText.mono ..
   | exact LeO.none _
   | refine LeO.ite ?_ ?_
   | refine LeO.bind ?_ (fun _ => ?_)
def laws_heldRecS.T10 : Bool × List (List Nat × List Nat) := (true, [([], []), ([], []), ([0, 1], [0, 1]), ([2], [2]), ([3], [3]), ([], []), ([5], [5]), ([4, 6], [4, 6])])
def laws_heldRecS.B10 : List Nat := [0, 0, 3, 7, 15, 0, 32, 127]
theorem laws_heldRecS.tab10 : rtab .any (opsOf Tryd.f46 10) = laws_heldRecS.T10 := by kernel_rfl
theorem laws_heldRecS.bits10 : waitsOk laws_heldRecS.T10.2 laws_heldRecS.B10 = true := by kernel_rfl
set_option maxHeartbeats 8000000 in
set_option maxRecDepth 100000 in
theorem laws_heldRecS.calls (k : Nat) (A0 : Option Addr) (c0 : Nat) (l0 : List (S42)) (a1 : Int) (r : Int) (w : World) (hr0 : Kd.C k42 w A0 l0.length l0) (hc0 : l0.length ≤ c0) (h : laws_heldRecS.f k l0 a1 = some r) :
  Calls Tryd.prog 46 #[.slice A0 l0.length c0, .int .i64 a1] w fun e w' => e = .returned (.int .i64 r) ∧ Below w.heap.size w w' := by
 have HR0 := Aside0.mk hr0
 have HC0 := Aside0.mk hc0
 clear hr0 hc0
 have HB := Aside0.mk (Below.refl w.heap.size w)
 unfold laws_heldRecS.f at h
 have H := h
 clear h
 have H' := Aside0.mk H
 clear H
 go_enter Tryd.func46, Tryd.ntmps46
 go_wp2
 go_loopg [1, 5] k (fun kq v1 v5 w' => ∃ (x1_1 : Int) (x5_1 : Int), v1 = .int .i64 x1_1 ∧ v5 = .int .i64 x5_1 ∧ Aside0 (laws_heldRecS.l0 kq l0 x1_1 x5_1 = some r) ∧ Aside0 (kq ≤ k) ∧ Aside0 (Below w.heap.size w w'))
 case atStart => exact ⟨(a1), (0), tq_3, tq_3, H', ⟨Nat.le_refl _⟩, ⟨th_⟩⟩
 case round =>
 clear H'
 try clear p2
 obtain ⟨x1_1, x5_1, rfl, rfl, HA, HK1, HB⟩ := hrel
 cases gk with
 | zero => exact absurd HA.out (by simp [laws_heldRecS.l0])
 | succ k1 =>
 have H := HA.out
 clear HA
 simp only [laws_heldRecS.l0] at H
 by_cases c3 : x5_1 < (l0.length : Int)
 rotate_left
 ·rw [if_neg c3] at H
  have c3b0 := decide_eq_false c3
  clear c3
  obtain rfl := Option.some.inj H
  go_wp2
  go_ret
  exact ⟨tq_2, th_⟩
 rw [if_pos c3] at H
 have c3b0 := decide_eq_true c3
 clear c3
 obtain ⟨c4, H⟩ := fc_ H
 have c4b0 := decide_eq_true c4
 clear c4
 by_cases c5 : ((rd_T42 l0 x5_1).f0) = x1_1
 rotate_left
 ·rw [if_neg c5] at H
  have c5b0 := beq_eq_false_iff_ne.mpr c5
  have c5b1 := bne_iff_ne.mpr c5
  obtain rfl := Option.some.inj H
  have p373 : 0 ≤ (x5_1 : Int) := of_decide_eq_true tq_1
  have q373 : x5_1 < (l0.length : Int) := of_decide_eq_true tq_1
  obtain ⟨ad373, e373, hx373_0, hx373_1, hx373_2⟩ := at_T42 HR0.out x5_1 p373 q373
  cases e373
  replace hx373_0 := hx_ HB.out hx373_0
  replace hx373_1 := hx_ HB.out hx373_1
  replace hx373_2 := hx_ HB.out hx373_2
  replace p373 := eq_true p373
  replace q373 := eq_true q373
  go_wp2
  go_ret
  exact ⟨tq_2, th_⟩
 rw [if_pos c5] at H
 have c5b0 := beq_iff_eq.mpr c5
 have c5b1 := bne_eq_false_iff_eq.mpr c5
 clear c5
 by_cases c6 : ((rd_T42 l0 x5_1).f1) = (wrap64 (x1_1 + 1))
 rotate_left
 ·rw [if_neg c6] at H
  have c6b0 := beq_eq_false_iff_ne.mpr c6
  have c6b1 := bne_iff_ne.mpr c6
  obtain rfl := Option.some.inj H
  have p373 : 0 ≤ (x5_1 : Int) := of_decide_eq_true tq_1
  have q373 : x5_1 < (l0.length : Int) := of_decide_eq_true tq_1
  obtain ⟨ad373, e373, hx373_0, hx373_1, hx373_2⟩ := at_T42 HR0.out x5_1 p373 q373
  cases e373
  replace hx373_0 := hx_ HB.out hx373_0
  replace hx373_1 := hx_ HB.out hx373_1
  replace hx373_2 := hx_ HB.out hx373_2
  replace p373 := eq_true p373
  replace q373 := eq_true q373
  have p374 : 0 ≤ (x5_1 : Int) := of_decide_eq_true tq_1
  have q374 : x5_1 < (l0.length : Int) := of_decide_eq_true tq_1
  obtain ⟨ad374, e374, hx374_0, hx374_1, hx374_2⟩ := at_T42 HR0.out x5_1 p374 q374
  obtain rfl : ad373 = ad374 := (by injection e374)
  replace hx374_0 := hx_ HB.out hx374_0
  replace hx374_1 := hx_ HB.out hx374_1
  replace hx374_2 := hx_ HB.out hx374_2
  replace p374 := eq_true p374
  replace q374 := eq_true q374
  go_wp2
  go_ret
  exact ⟨tq_2, th_⟩
 rw [if_pos c6] at H
 have c6b0 := beq_iff_eq.mpr c6
 have c6b1 := bne_eq_false_iff_eq.mpr c6
 clear c6
 obtain ⟨t376, A7, H⟩ := bd_ H
 by_cases c8 : ((rd_T42 l0 x5_1).f2).toList = t376.toList
 rotate_left
 ·rw [if_neg c8] at H
  have c8b0 := beq_eq_false_iff_ne.mpr c8
  have c8b1 := bne_iff_ne.mpr c8
  obtain rfl := Option.some.inj H
  have p373 : 0 ≤ (x5_1 : Int) := of_decide_eq_true tq_1
  have q373 : x5_1 < (l0.length : Int) := of_decide_eq_true tq_1
  obtain ⟨ad373, e373, hx373_0, hx373_1, hx373_2⟩ := at_T42 HR0.out x5_1 p373 q373
  cases e373
  replace hx373_0 := hx_ HB.out hx373_0
  replace hx373_1 := hx_ HB.out hx373_1
  replace hx373_2 := hx_ HB.out hx373_2
  replace p373 := eq_true p373
  replace q373 := eq_true q373
  have p374 : 0 ≤ (x5_1 : Int) := of_decide_eq_true tq_1
  have q374 : x5_1 < (l0.length : Int) := of_decide_eq_true tq_1
  obtain ⟨ad374, e374, hx374_0, hx374_1, hx374_2⟩ := at_T42 HR0.out x5_1 p374 q374
  obtain rfl : ad373 = ad374 := (by injection e374)
  replace hx374_0 := hx_ HB.out hx374_0
  replace hx374_1 := hx_ HB.out hx374_1
  replace hx374_2 := hx_ HB.out hx374_2
  replace p374 := eq_true p374
  replace q374 := eq_true q374
  try go_wp2
  have n0_ := Aside0.mk (below_drew1 HB.out)
  clear HB
  have HB := n0_
  clear n0_
  have p375 : 0 ≤ (x5_1 : Int) := of_decide_eq_true tq_1
  have q375 : x5_1 < (l0.length : Int) := of_decide_eq_true tq_1
  obtain ⟨ad375, e375, hx375_0, hx375_1, hx375_2⟩ := at_T42 HR0.out x5_1 p375 q375
  have hw375_2 := hx375_2
  have hw375_1 := hx375_1
  have hw375_0 := hx375_0
  obtain rfl : ad373 = ad375 := (by injection e375)
  replace hx375_0 := hx_ HB.out hx375_0
  replace hx375_1 := hx_ HB.out hx375_1
  replace hx375_2 := hx_ HB.out hx375_2
  replace p375 := eq_true p375
  replace q375 := eq_true q375
  refine start_ (n := 8) (S := fun w' => w'.cell? (ad373.add ((x5_1).toNat * 3)) = some (.int .i64 ((rd_T42 l0 x5_1).f0)) ∧ w'.cell? ⟨(ad373.add ((x5_1).toNat * 3)).block, (ad373.add ((x5_1).toNat * 3)).off + 1, none⟩ = some (.int .i64 ((rd_T42 l0 x5_1).f1)) ∧ w'.cell? ⟨(ad373.add ((x5_1).toNat * 3)).block, (ad373.add ((x5_1).toNat * 3)).off + 2, none⟩ = some (.string ((rd_T42 l0 x5_1).f2))) (ds := []) bq_1 (by kernel_rfl) rfl rfl ⟨((HB.out.cell (World.block_lt_of_cell? w _ hw375_0)).trans hw375_0), ((HB.out.cell (World.block_lt_of_cell? w _ hw375_1)).trans hw375_1), ((HB.out.cell (World.block_lt_of_cell? w _ hw375_2)).trans hw375_2)⟩ (fun hHeld => ?_); refine with_tabW laws_heldRecS.tab10 laws_heldRecS.bits10 (fun HT_ HW_ => ?_)
  generalize wr.drew = w11 at HB hx375_0 hx375_1 hx375_2 hHeld ⊢
  refine yr_ 0 30 bq_2 HT_ ?_
  refine yr_ 1 31 bq_86 HT_ ?_
  refine yr_ 2 32 bq_87 HT_ ?_
  refine yr_ 3 33 bq_88 HT_ ?_
  refine yr_ 5 35 bq_89 HT_ ?_
  refine tr_ 4 34 bq_3 HT_ HW_ hHeld ?_
  refine one_ (i := 6) (N := some 36) bq_4 rfl rfl (one_of HT_.out (by kernel_rfl)) (by decide) (fun K hK => ?_)
  refine goes_ Tryd.func43 (by kernel_rfl) rfl #[.int .i64 (wrap64 ((wrap64 (x1_1 + 1)) + 1))] (by rfl) rfl rfl tq_0 ?_
  with_reducible refine (laws_markText.calls k1 (wrap64 ((wrap64 (x1_1 + 1)) + 1)) t376 _ A7.out).mono ?_
  rintro e w12 ⟨rfl, hb⟩
  refine ⟨_, rfl, ?_⟩
  have n0_ := Aside0.mk (below_step th_ hb)
  clear HB
  have HB := n0_
  clear n0_
  (try clear hb)
  refine hK.out _ _ ⟨((HB.out.cell (World.block_lt_of_cell? w _ hw375_0)).trans hw375_0), ((HB.out.cell (World.block_lt_of_cell? w _ hw375_1)).trans hw375_1), ((HB.out.cell (World.block_lt_of_cell? w _ hw375_2)).trans hw375_2)⟩ (fun hHeld => ?_)
  clear hK K
  refine nm_ (some 36) ?_
  refine yr_ 7 37 bq_5 HT_ ?_
  refine done_ (done_of HT_.out (by kernel_rfl)) ?_
  try go_wp2
  go_ret
  exact ⟨tq_2, th_⟩
 rw [if_pos c8] at H
 have c8b0 := beq_iff_eq.mpr c8
 have c8b1 := bne_eq_false_iff_eq.mpr c8
 clear c8
 have H' := Aside0.mk H
 clear H
 have p373 : 0 ≤ (x5_1 : Int) := of_decide_eq_true tq_1
 have q373 : x5_1 < (l0.length : Int) := of_decide_eq_true tq_1
 obtain ⟨ad373, e373, hx373_0, hx373_1, hx373_2⟩ := at_T42 HR0.out x5_1 p373 q373
 cases e373
 replace hx373_0 := hx_ HB.out hx373_0
 replace hx373_1 := hx_ HB.out hx373_1
 replace hx373_2 := hx_ HB.out hx373_2
 replace p373 := eq_true p373
 replace q373 := eq_true q373
 have p374 : 0 ≤ (x5_1 : Int) := of_decide_eq_true tq_1
 have q374 : x5_1 < (l0.length : Int) := of_decide_eq_true tq_1
 obtain ⟨ad374, e374, hx374_0, hx374_1, hx374_2⟩ := at_T42 HR0.out x5_1 p374 q374
 obtain rfl : ad373 = ad374 := (by injection e374)
 replace hx374_0 := hx_ HB.out hx374_0
 replace hx374_1 := hx_ HB.out hx374_1
 replace hx374_2 := hx_ HB.out hx374_2
 replace p374 := eq_true p374
 replace q374 := eq_true q374
 try go_wp2
 have n0_ := Aside0.mk (below_drew1 HB.out)
 clear HB
 have HB := n0_
 clear n0_
 have p375 : 0 ≤ (x5_1 : Int) := of_decide_eq_true tq_1
 have q375 : x5_1 < (l0.length : Int) := of_decide_eq_true tq_1
 obtain ⟨ad375, e375, hx375_0, hx375_1, hx375_2⟩ := at_T42 HR0.out x5_1 p375 q375
 have hw375_2 := hx375_2
 have hw375_1 := hx375_1
 have hw375_0 := hx375_0
 obtain rfl : ad373 = ad375 := (by injection e375)
 replace hx375_0 := hx_ HB.out hx375_0
 replace hx375_1 := hx_ HB.out hx375_1
 replace hx375_2 := hx_ HB.out hx375_2
 replace p375 := eq_true p375
 replace q375 := eq_true q375
 refine start_ (n := 8) (S := fun w' => w'.cell? (ad373.add ((x5_1).toNat * 3)) = some (.int .i64 ((rd_T42 l0 x5_1).f0)) ∧ w'.cell? ⟨(ad373.add ((x5_1).toNat * 3)).block, (ad373.add ((x5_1).toNat * 3)).off + 1, none⟩ = some (.int .i64 ((rd_T42 l0 x5_1).f1)) ∧ w'.cell? ⟨(ad373.add ((x5_1).toNat * 3)).block, (ad373.add ((x5_1).toNat * 3)).off + 2, none⟩ = some (.string ((rd_T42 l0 x5_1).f2))) (ds := []) bq_1 (by kernel_rfl) rfl rfl ⟨((HB.out.cell (World.block_lt_of_cell? w _ hw375_0)).trans hw375_0), ((HB.out.cell (World.block_lt_of_cell? w _ hw375_1)).trans hw375_1), ((HB.out.cell (World.block_lt_of_cell? w _ hw375_2)).trans hw375_2)⟩ (fun hHeld => ?_); refine with_tabW laws_heldRecS.tab10 laws_heldRecS.bits10 (fun HT_ HW_ => ?_)
 generalize wr.drew = w9 at HB hx375_0 hx375_1 hx375_2 hHeld ⊢
 refine yr_ 0 30 bq_2 HT_ ?_
 refine yr_ 1 31 bq_86 HT_ ?_
 refine yr_ 2 32 bq_87 HT_ ?_
 refine yr_ 3 33 bq_88 HT_ ?_
 refine yr_ 5 35 bq_89 HT_ ?_
 refine tr_ 4 34 bq_3 HT_ HW_ hHeld ?_
 refine one_ (i := 6) (N := some 36) bq_4 rfl rfl (one_of HT_.out (by kernel_rfl)) (by decide) (fun K hK => ?_)
 refine goes_ Tryd.func43 (by kernel_rfl) rfl #[.int .i64 (wrap64 ((wrap64 (x1_1 + 1)) + 1))] (by rfl) rfl rfl tq_0 ?_
 with_reducible refine (laws_markText.calls k1 (wrap64 ((wrap64 (x1_1 + 1)) + 1)) t376 _ A7.out).mono ?_
 rintro e w10 ⟨rfl, hb⟩
 refine ⟨_, rfl, ?_⟩
 have n0_ := Aside0.mk (below_step th_ hb)
 clear HB
 have HB := n0_
 clear n0_
 (try clear hb)
 refine hK.out _ _ ⟨((HB.out.cell (World.block_lt_of_cell? w _ hw375_0)).trans hw375_0), ((HB.out.cell (World.block_lt_of_cell? w _ hw375_1)).trans hw375_1), ((HB.out.cell (World.block_lt_of_cell? w _ hw375_2)).trans hw375_2)⟩ (fun hHeld => ?_)
 clear hK K
 refine nm_ (some 36) ?_
 refine yr_ 7 37 bq_5 HT_ ?_
 refine done_ (done_of HT_.out (by kernel_rfl)) ?_
 try go_wp2
 go_roundg k1
 case measure => have := HK1.out; omega
 case rel => exact ⟨(wrap64 ((wrap64 ((wrap64 (x1_1 + 1)) + 1)) + 1)), (wrap64 (x5_1 + 1)), tq_3, tq_3, H', ⟨tq_41⟩, ⟨th_⟩⟩

/-! ### laws_heldEntryS: function 47 -/
def laws_heldEntryS.l0 : Nat → List (S47) → Int → Int → Option (Int)
 | 0, _, _, _ => none
 | k + 1, x0, x1, x5 => if x5 < (x0.length : Int) then (if 0 ≤ x5 then (if ((rd_T47 x0 x5).f0) = x1 then ((laws_markText.f k (wrap64 (x1 + 1))).bind fun t379 => (if ((rd_T47 x0 x5).f1).toList = t379.toList then (laws_heldEntryS.l0 k x0 (wrap64 ((wrap64 (x1 + 1)) + 1)) (wrap64 (x5 + 1))) else (some (-1)))) else (some (-1))) else (none)) else (some x1)
def laws_heldEntryS.f (k : Nat) (l0 : List (S47)) (a1 : Int) : Option (Int) := laws_heldEntryS.l0 k l0 a1 0
theorem laws_heldEntryS.mono_l : ∀ k, (∀ y0 y1 y2, LeO (laws_heldEntryS.l0 k y0 y1 y2) (laws_heldEntryS.l0 (k + 1) y0 y1 y2))
 | 0 => fun _ _ _ r h => by simp [laws_heldEntryS.l0] at h
 | k + 1 => by
  have ih0 := laws_heldEntryS.mono_l k
  ·intro y0 y1 y2
   unfold laws_heldEntryS.l0
   exact mo_7
theorem laws_heldEntryS.mono : ∀ a0 a1 k, LeO (laws_heldEntryS.f k a0 a1) (laws_heldEntryS.f (k + 1) a0 a1) := by
 intro a0 a1 k
 have ih0 := laws_heldEntryS.mono_l k
 unfold laws_heldEntryS.f
 repeat' first
   | (with_reducible exact ih0 ..)
   | (with_reducible exact laws_markText.mono ..)
   | (with_reducible exact LeO.refl _)
   | (with_reducible exact LeO.none _)
   | (with_reducible refine LeO.ite ?_ ?_)
   | (with_reducible refine LeO.bind ?_ (fun _ => ?_))
   | exact ih0 ..
   | exact laws_markText.mono ..
   | exact LeO.none _
   | refine LeO.ite ?_ ?_
   | refine LeO.bind ?_ (fun _ => ?_)
def laws_heldEntryS.T7 : Bool × List (List Nat × List Nat) := (true, [([], []), ([], []), ([0, 1], [0, 1]), ([2], [2]), ([3], [3]), ([], []), ([5], [5]), ([4, 6], [4, 6])])
def laws_heldEntryS.B7 : List Nat := [0, 0, 3, 7, 15, 0, 32, 127]
theorem laws_heldEntryS.tab7 : rtab .any (opsOf Tryd.f47 7) = laws_heldEntryS.T7 := by kernel_rfl
theorem laws_heldEntryS.bits7 : waitsOk laws_heldEntryS.T7.2 laws_heldEntryS.B7 = true := by kernel_rfl
set_option maxHeartbeats 8000000 in
set_option maxRecDepth 100000 in
theorem laws_heldEntryS.calls (k : Nat) (A0 : Option Addr) (c0 : Nat) (l0 : List (S47)) (a1 : Int) (r : Int) (w : World) (hr0 : Kd.C k47 w A0 l0.length l0) (hc0 : l0.length ≤ c0) (h : laws_heldEntryS.f k l0 a1 = some r) :
  Calls Tryd.prog 47 #[.slice A0 l0.length c0, .int .i64 a1] w fun e w' => e = .returned (.int .i64 r) ∧ Below w.heap.size w w' := by
 have HR0 := Aside0.mk hr0
 have HC0 := Aside0.mk hc0
 clear hr0 hc0
 have HB := Aside0.mk (Below.refl w.heap.size w)
 unfold laws_heldEntryS.f at h
 have H := h
 clear h
 have H' := Aside0.mk H
 clear H
 go_enter Tryd.func47, Tryd.ntmps47
 go_wp2
 go_loopg [1, 5] k (fun kq v1 v5 w' => ∃ (x1_1 : Int) (x5_1 : Int), v1 = .int .i64 x1_1 ∧ v5 = .int .i64 x5_1 ∧ Aside0 (laws_heldEntryS.l0 kq l0 x1_1 x5_1 = some r) ∧ Aside0 (kq ≤ k) ∧ Aside0 (Below w.heap.size w w'))
 case atStart => exact ⟨(a1), (0), tq_3, tq_3, H', ⟨Nat.le_refl _⟩, ⟨th_⟩⟩
 case round =>
 clear H'
 try clear p2
 obtain ⟨x1_1, x5_1, rfl, rfl, HA, HK1, HB⟩ := hrel
 cases gk with
 | zero => exact absurd HA.out (by simp [laws_heldEntryS.l0])
 | succ k1 =>
 have H := HA.out
 clear HA
 simp only [laws_heldEntryS.l0] at H
 by_cases c3 : x5_1 < (l0.length : Int)
 rotate_left
 ·rw [if_neg c3] at H
  have c3b0 := decide_eq_false c3
  clear c3
  obtain rfl := Option.some.inj H
  go_wp2
  go_ret
  exact ⟨tq_2, th_⟩
 rw [if_pos c3] at H
 have c3b0 := decide_eq_true c3
 clear c3
 obtain ⟨c4, H⟩ := fc_ H
 have c4b0 := decide_eq_true c4
 clear c4
 by_cases c5 : ((rd_T47 l0 x5_1).f0) = x1_1
 rotate_left
 ·rw [if_neg c5] at H
  have c5b0 := beq_eq_false_iff_ne.mpr c5
  have c5b1 := bne_iff_ne.mpr c5
  obtain rfl := Option.some.inj H
  have p377 : 0 ≤ (x5_1 : Int) := of_decide_eq_true tq_1
  have q377 : x5_1 < (l0.length : Int) := of_decide_eq_true tq_1
  obtain ⟨ad377, e377, hx377_0, hx377_1⟩ := at_T47 HR0.out x5_1 p377 q377
  cases e377
  replace hx377_0 := hx_ HB.out hx377_0
  replace hx377_1 := hx_ HB.out hx377_1
  replace p377 := eq_true p377
  replace q377 := eq_true q377
  go_wp2
  go_ret
  exact ⟨tq_2, th_⟩
 rw [if_pos c5] at H
 have c5b0 := beq_iff_eq.mpr c5
 have c5b1 := bne_eq_false_iff_eq.mpr c5
 clear c5
 obtain ⟨t379, A6, H⟩ := bd_ H
 by_cases c7 : ((rd_T47 l0 x5_1).f1).toList = t379.toList
 rotate_left
 ·rw [if_neg c7] at H
  have c7b0 := beq_eq_false_iff_ne.mpr c7
  have c7b1 := bne_iff_ne.mpr c7
  obtain rfl := Option.some.inj H
  have p377 : 0 ≤ (x5_1 : Int) := of_decide_eq_true tq_1
  have q377 : x5_1 < (l0.length : Int) := of_decide_eq_true tq_1
  obtain ⟨ad377, e377, hx377_0, hx377_1⟩ := at_T47 HR0.out x5_1 p377 q377
  cases e377
  replace hx377_0 := hx_ HB.out hx377_0
  replace hx377_1 := hx_ HB.out hx377_1
  replace p377 := eq_true p377
  replace q377 := eq_true q377
  try go_wp2
  have n0_ := Aside0.mk (below_drew1 HB.out)
  clear HB
  have HB := n0_
  clear n0_
  have p378 : 0 ≤ (x5_1 : Int) := of_decide_eq_true tq_1
  have q378 : x5_1 < (l0.length : Int) := of_decide_eq_true tq_1
  obtain ⟨ad378, e378, hx378_0, hx378_1⟩ := at_T47 HR0.out x5_1 p378 q378
  have hw378_1 := hx378_1
  have hw378_0 := hx378_0
  obtain rfl : ad377 = ad378 := (by injection e378)
  replace hx378_0 := hx_ HB.out hx378_0
  replace hx378_1 := hx_ HB.out hx378_1
  replace p378 := eq_true p378
  replace q378 := eq_true q378
  refine start_ (n := 8) (S := fun w' => w'.cell? (ad377.add ((x5_1).toNat * 2)) = some (.int .i64 ((rd_T47 l0 x5_1).f0)) ∧ w'.cell? ⟨(ad377.add ((x5_1).toNat * 2)).block, (ad377.add ((x5_1).toNat * 2)).off + 1, none⟩ = some (.string ((rd_T47 l0 x5_1).f1))) (ds := []) bq_1 (by kernel_rfl) rfl rfl ⟨((HB.out.cell (World.block_lt_of_cell? w _ hw378_0)).trans hw378_0), ((HB.out.cell (World.block_lt_of_cell? w _ hw378_1)).trans hw378_1)⟩ (fun hHeld => ?_); refine with_tabW laws_heldEntryS.tab7 laws_heldEntryS.bits7 (fun HT_ HW_ => ?_)
  generalize wr.drew = w10 at HB hx378_0 hx378_1 hHeld ⊢
  refine yr_ 0 21 bq_2 HT_ ?_
  refine yr_ 1 22 bq_86 HT_ ?_
  refine yr_ 2 23 bq_87 HT_ ?_
  refine yr_ 3 24 bq_88 HT_ ?_
  refine yr_ 5 26 bq_89 HT_ ?_
  refine tr_ 4 25 bq_3 HT_ HW_ hHeld ?_
  refine one_ (i := 6) (N := some 27) bq_4 rfl rfl (one_of HT_.out (by kernel_rfl)) (by decide) (fun K hK => ?_)
  refine goes_ Tryd.func43 (by kernel_rfl) rfl #[.int .i64 (wrap64 (x1_1 + 1))] (by rfl) rfl rfl tq_0 ?_
  with_reducible refine (laws_markText.calls k1 (wrap64 (x1_1 + 1)) t379 _ A6.out).mono ?_
  rintro e w11 ⟨rfl, hb⟩
  refine ⟨_, rfl, ?_⟩
  have n0_ := Aside0.mk (below_step th_ hb)
  clear HB
  have HB := n0_
  clear n0_
  (try clear hb)
  refine hK.out _ _ ⟨((HB.out.cell (World.block_lt_of_cell? w _ hw378_0)).trans hw378_0), ((HB.out.cell (World.block_lt_of_cell? w _ hw378_1)).trans hw378_1)⟩ (fun hHeld => ?_)
  clear hK K
  refine nm_ (some 27) ?_
  refine yr_ 7 28 bq_5 HT_ ?_
  refine done_ (done_of HT_.out (by kernel_rfl)) ?_
  try go_wp2
  go_ret
  exact ⟨tq_2, th_⟩
 rw [if_pos c7] at H
 have c7b0 := beq_iff_eq.mpr c7
 have c7b1 := bne_eq_false_iff_eq.mpr c7
 clear c7
 have H' := Aside0.mk H
 clear H
 have p377 : 0 ≤ (x5_1 : Int) := of_decide_eq_true tq_1
 have q377 : x5_1 < (l0.length : Int) := of_decide_eq_true tq_1
 obtain ⟨ad377, e377, hx377_0, hx377_1⟩ := at_T47 HR0.out x5_1 p377 q377
 cases e377
 replace hx377_0 := hx_ HB.out hx377_0
 replace hx377_1 := hx_ HB.out hx377_1
 replace p377 := eq_true p377
 replace q377 := eq_true q377
 try go_wp2
 have n0_ := Aside0.mk (below_drew1 HB.out)
 clear HB
 have HB := n0_
 clear n0_
 have p378 : 0 ≤ (x5_1 : Int) := of_decide_eq_true tq_1
 have q378 : x5_1 < (l0.length : Int) := of_decide_eq_true tq_1
 obtain ⟨ad378, e378, hx378_0, hx378_1⟩ := at_T47 HR0.out x5_1 p378 q378
 have hw378_1 := hx378_1
 have hw378_0 := hx378_0
 obtain rfl : ad377 = ad378 := (by injection e378)
 replace hx378_0 := hx_ HB.out hx378_0
 replace hx378_1 := hx_ HB.out hx378_1
 replace p378 := eq_true p378
 replace q378 := eq_true q378
 refine start_ (n := 8) (S := fun w' => w'.cell? (ad377.add ((x5_1).toNat * 2)) = some (.int .i64 ((rd_T47 l0 x5_1).f0)) ∧ w'.cell? ⟨(ad377.add ((x5_1).toNat * 2)).block, (ad377.add ((x5_1).toNat * 2)).off + 1, none⟩ = some (.string ((rd_T47 l0 x5_1).f1))) (ds := []) bq_1 (by kernel_rfl) rfl rfl ⟨((HB.out.cell (World.block_lt_of_cell? w _ hw378_0)).trans hw378_0), ((HB.out.cell (World.block_lt_of_cell? w _ hw378_1)).trans hw378_1)⟩ (fun hHeld => ?_); refine with_tabW laws_heldEntryS.tab7 laws_heldEntryS.bits7 (fun HT_ HW_ => ?_)
 generalize wr.drew = w8 at HB hx378_0 hx378_1 hHeld ⊢
 refine yr_ 0 21 bq_2 HT_ ?_
 refine yr_ 1 22 bq_86 HT_ ?_
 refine yr_ 2 23 bq_87 HT_ ?_
 refine yr_ 3 24 bq_88 HT_ ?_
 refine yr_ 5 26 bq_89 HT_ ?_
 refine tr_ 4 25 bq_3 HT_ HW_ hHeld ?_
 refine one_ (i := 6) (N := some 27) bq_4 rfl rfl (one_of HT_.out (by kernel_rfl)) (by decide) (fun K hK => ?_)
 refine goes_ Tryd.func43 (by kernel_rfl) rfl #[.int .i64 (wrap64 (x1_1 + 1))] (by rfl) rfl rfl tq_0 ?_
 with_reducible refine (laws_markText.calls k1 (wrap64 (x1_1 + 1)) t379 _ A6.out).mono ?_
 rintro e w9 ⟨rfl, hb⟩
 refine ⟨_, rfl, ?_⟩
 have n0_ := Aside0.mk (below_step th_ hb)
 clear HB
 have HB := n0_
 clear n0_
 (try clear hb)
 refine hK.out _ _ ⟨((HB.out.cell (World.block_lt_of_cell? w _ hw378_0)).trans hw378_0), ((HB.out.cell (World.block_lt_of_cell? w _ hw378_1)).trans hw378_1)⟩ (fun hHeld => ?_)
 clear hK K
 refine nm_ (some 27) ?_
 refine yr_ 7 28 bq_5 HT_ ?_
 refine done_ (done_of HT_.out (by kernel_rfl)) ?_
 try go_wp2
 go_roundg k1
 case measure => have := HK1.out; omega
 case rel => exact ⟨(wrap64 ((wrap64 (x1_1 + 1)) + 1)), (wrap64 (x5_1 + 1)), tq_3, tq_3, H', ⟨tq_41⟩, ⟨th_⟩⟩

/-! ### laws_heldInode: function 14 -/
def laws_heldInode.f (k : Nat) (a0_0 : Int) (a0_1 : Int) (a0_2 : Int) (a0_3 : ByteArray) (l0_4 : List (S42)) (l0_5 : List (S47)) (a1 : Int) : Option (Int) := (laws_heldRecS.f k l0_4 a1).bind fun t381 => (if t381 < 0 then (some (-1)) else ((laws_heldEntryS.f k l0_5 t381).bind fun t382 => (if t382 < 0 then (some (-1)) else (some t382))))
theorem laws_heldInode.mono : ∀ a0 a1 a2 a3 a4 a5 a6 k, LeO (laws_heldInode.f k a0 a1 a2 a3 a4 a5 a6) (laws_heldInode.f (k + 1) a0 a1 a2 a3 a4 a5 a6) := by
 intro a0 a1 a2 a3 a4 a5 a6 k
 unfold laws_heldInode.f
 repeat' first
   | (with_reducible exact laws_heldEntryS.mono ..)
   | (with_reducible exact laws_heldRecS.mono ..)
   | (with_reducible exact LeO.refl _)
   | (with_reducible exact LeO.none _)
   | (with_reducible refine LeO.ite ?_ ?_)
   | (with_reducible refine LeO.bind ?_ (fun _ => ?_))
   | exact laws_heldEntryS.mono ..
   | exact laws_heldRecS.mono ..
   | exact LeO.none _
   | refine LeO.ite ?_ ?_
   | refine LeO.bind ?_ (fun _ => ?_)
set_option maxHeartbeats 8000000 in
set_option maxRecDepth 100000 in
theorem laws_heldInode.calls (k : Nat) (a0_0 : Int) (a0_1 : Int) (a0_2 : Int) (a0_3 : ByteArray) (A0_4 : Option Addr) (c0_4 : Nat) (l0_4 : List (S42)) (A0_5 : Option Addr) (c0_5 : Nat) (l0_5 : List (S47)) (a1 : Int) (r : Int) (w : World) (hr0_4 : Kd.C k42 w A0_4 l0_4.length l0_4) (hc0_4 : l0_4.length ≤ c0_4) (hr0_5 : Kd.C k47 w A0_5 l0_5.length l0_5) (hc0_5 : l0_5.length ≤ c0_5) (h : laws_heldInode.f k a0_0 a0_1 a0_2 a0_3 l0_4 l0_5 a1 = some r) :
  Calls Tryd.prog 14 #[.agg #[.int .i64 a0_0, .int .i64 a0_1, .int .i64 a0_2, .string a0_3, .slice A0_4 l0_4.length c0_4, .slice A0_5 l0_5.length c0_5], .int .i64 a1] w fun e w' => e = .returned (.int .i64 r) ∧ Below w.heap.size w w' := by
 have hu27 := Tryd.underlying27
 have HR0_4 := Aside0.mk hr0_4
 have HC0_4 := Aside0.mk hc0_4
 clear hr0_4 hc0_4
 have HR0_5 := Aside0.mk hr0_5
 have HC0_5 := Aside0.mk hc0_5
 clear hr0_5 hc0_5
 have HB := Aside0.mk (Below.refl w.heap.size w)
 unfold laws_heldInode.f at h
 have H := h
 clear h
 obtain ⟨t381, A3, H⟩ := bd_ H
 by_cases c4 : t381 < 0
 ·rw [if_pos c4] at H
  have c4b0 := decide_eq_true c4
  clear c4
  obtain rfl := Option.some.inj H
  go_enter Tryd.func14, Tryd.ntmps14
  go_wp2_with (first | ((with_reducible refine gate_dst (N := 2) rfl ?_); refine be_ 2 (cs := #[.int .i64 a0_0, .int .i64 a0_1, .int .i64 a0_2, .string a0_3, .slice A0_4 l0_4.length c0_4, .slice A0_5 l0_5.length c0_5]) 27 ?_; intro gb380 hg w5 hbox hb; have z_ := bx0_ th_ hb hbox hg; clear HB; obtain ⟨HB, BK380, GW380, GE380⟩ := z_; clear hb hbox hg; obtain ⟨hcz6_0, hcz6_1, hcz6_2, hcz6_3, hcz6_4, hcz6_5⟩ := bk6_ BK380.out; obtain ⟨hfz6_0, hfz6_1, hfz6_2, hfz6_3, hfz6_4, hfz6_5⟩ := bf6_ BK380.out) | ((with_reducible refine gate_callee (f := 46) rfl ?_); refine goesL_ (some 8) rfl rfl Tryd.func46 (by kernel_rfl) rfl #[.slice A0_4 l0_4.length c0_4, .int .i64 a1] rfl tq_0 ?_; (with_reducible refine (laws_heldRecS.calls k _ _ l0_4 a1 t381 _ ?side1 ?side2 A3.out).mono ?_); (case side1 => exact tq_11); (case side2 => exact HC0_4.out); rintro e w7 ⟨rfl, hb⟩; refine ⟨_, rfl, ?_⟩; have z_ := bw1_ (kb_ BK380) th_ hb; clear BK380 HB; obtain ⟨BK380, HB⟩ := z_; (try clear hb)))
  go_ret
  exact ⟨tq_2, th_⟩
 rw [if_neg c4] at H
 have c4b0 := decide_eq_false c4
 clear c4
 obtain ⟨t382, A8, H⟩ := bd_ H
 by_cases c9 : t382 < 0
 ·rw [if_pos c9] at H
  have c9b0 := decide_eq_true c9
  clear c9
  obtain rfl := Option.some.inj H
  go_enter Tryd.func14, Tryd.ntmps14
  go_wp2_with (first | ((with_reducible refine gate_dst (N := 2) rfl ?_); refine be_ 2 (cs := #[.int .i64 a0_0, .int .i64 a0_1, .int .i64 a0_2, .string a0_3, .slice A0_4 l0_4.length c0_4, .slice A0_5 l0_5.length c0_5]) 27 ?_; intro gb380 hg w10 hbox hb; have z_ := bx0_ th_ hb hbox hg; clear HB; obtain ⟨HB, BK380, GW380, GE380⟩ := z_; clear hb hbox hg; obtain ⟨hcz11_0, hcz11_1, hcz11_2, hcz11_3, hcz11_4, hcz11_5⟩ := bk6_ BK380.out; obtain ⟨hfz11_0, hfz11_1, hfz11_2, hfz11_3, hfz11_4, hfz11_5⟩ := bf6_ BK380.out) | ((with_reducible refine gate_callee (f := 46) rfl ?_); refine goesL_ (some 8) rfl rfl Tryd.func46 (by kernel_rfl) rfl #[.slice A0_4 l0_4.length c0_4, .int .i64 a1] rfl tq_0 ?_; (with_reducible refine (laws_heldRecS.calls k _ _ l0_4 a1 t381 _ ?side1 ?side2 A3.out).mono ?_); (case side1 => exact tq_11); (case side2 => exact HC0_4.out); rintro e w12 ⟨rfl, hb⟩; refine ⟨_, rfl, ?_⟩; have z_ := bw1_ (kb_ BK380) th_ hb; clear BK380 HB; obtain ⟨BK380, HB⟩ := z_; (try clear hb); obtain ⟨hcz13_0, hcz13_1, hcz13_2, hcz13_3, hcz13_4, hcz13_5⟩ := bk6_ BK380.out; obtain ⟨hfz13_0, hfz13_1, hfz13_2, hfz13_3, hfz13_4, hfz13_5⟩ := bf6_ BK380.out) | ((with_reducible refine gate_callee (f := 47) rfl ?_); refine goesL_ (some 14) rfl rfl Tryd.func47 (by kernel_rfl) rfl #[.slice A0_5 l0_5.length c0_5, .int .i64 t381] rfl tq_0 ?_; (with_reducible refine (laws_heldEntryS.calls k _ _ l0_5 t381 t382 _ ?side1 ?side2 A8.out).mono ?_); (case side1 => exact tq_20); (case side2 => exact HC0_5.out); rintro e w14 ⟨rfl, hb⟩; refine ⟨_, rfl, ?_⟩; have z_ := bw1_ (kb_ BK380) th_ hb; clear BK380 HB; obtain ⟨BK380, HB⟩ := z_; (try clear hb)))
  go_ret
  exact ⟨tq_2, th_⟩
 rw [if_neg c9] at H
 have c9b0 := decide_eq_false c9
 clear c9
 obtain rfl := Option.some.inj H
 go_enter Tryd.func14, Tryd.ntmps14
 go_wp2_with (first | ((with_reducible refine gate_dst (N := 2) rfl ?_); refine be_ 2 (cs := #[.int .i64 a0_0, .int .i64 a0_1, .int .i64 a0_2, .string a0_3, .slice A0_4 l0_4.length c0_4, .slice A0_5 l0_5.length c0_5]) 27 ?_; intro gb380 hg w15 hbox hb; have z_ := bx0_ th_ hb hbox hg; clear HB; obtain ⟨HB, BK380, GW380, GE380⟩ := z_; clear hb hbox hg; obtain ⟨hcz16_0, hcz16_1, hcz16_2, hcz16_3, hcz16_4, hcz16_5⟩ := bk6_ BK380.out; obtain ⟨hfz16_0, hfz16_1, hfz16_2, hfz16_3, hfz16_4, hfz16_5⟩ := bf6_ BK380.out) | ((with_reducible refine gate_callee (f := 46) rfl ?_); refine goesL_ (some 8) rfl rfl Tryd.func46 (by kernel_rfl) rfl #[.slice A0_4 l0_4.length c0_4, .int .i64 a1] rfl tq_0 ?_; (with_reducible refine (laws_heldRecS.calls k _ _ l0_4 a1 t381 _ ?side1 ?side2 A3.out).mono ?_); (case side1 => exact tq_11); (case side2 => exact HC0_4.out); rintro e w17 ⟨rfl, hb⟩; refine ⟨_, rfl, ?_⟩; have z_ := bw1_ (kb_ BK380) th_ hb; clear BK380 HB; obtain ⟨BK380, HB⟩ := z_; (try clear hb); obtain ⟨hcz18_0, hcz18_1, hcz18_2, hcz18_3, hcz18_4, hcz18_5⟩ := bk6_ BK380.out; obtain ⟨hfz18_0, hfz18_1, hfz18_2, hfz18_3, hfz18_4, hfz18_5⟩ := bf6_ BK380.out) | ((with_reducible refine gate_callee (f := 47) rfl ?_); refine goesL_ (some 14) rfl rfl Tryd.func47 (by kernel_rfl) rfl #[.slice A0_5 l0_5.length c0_5, .int .i64 t381] rfl tq_0 ?_; (with_reducible refine (laws_heldEntryS.calls k _ _ l0_5 t381 t382 _ ?side1 ?side2 A8.out).mono ?_); (case side1 => exact tq_20); (case side2 => exact HC0_5.out); rintro e w19 ⟨rfl, hb⟩; refine ⟨_, rfl, ?_⟩; have z_ := bw1_ (kb_ BK380) th_ hb; clear BK380 HB; obtain ⟨BK380, HB⟩ := z_; (try clear hb)))
 go_ret
 exact ⟨tq_2, th_⟩

end Go.Proofs.YtjfhddenmnjgbaaDoor.PFnExactReadInode
