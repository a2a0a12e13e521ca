/- Contracts of Go functions, written by a program of ours over the print of the kit: each says that the call returns what the Lean function beside it computes. Conditions: as each theorem states them. -/
import Derived.Test.YtcdnfkoahajhhaaPkFnExactWithEntry
import Derived.Test.YtcdnfkoahajhhaaPFnExactWithEntryx0
import Derived.Test.YtcdnfkoahajhhaaPFnExactWithEntryx3
namespace Go.Proofs.Ytcdnfkoahajhhaa.PFnExactWithEntry
open Go.RowKit Go.Proofs.YtcdnfkoahajhhaaW.PrintWords Go.Proofs.YtcdnfkoahajhhaaW.PrintLast Go.Proofs.YtcdnfkoahajhhaaW.PrintMore
attribute [local go_sem] max2_int min2_int max_two min_two max_three min_three max_four min_four   -- for this text's walks alone
set_option linter.unusedVariables false
set_option linter.unusedSimpArgs false

/-! ### laws_heldRecS: function 103 -/
def laws_heldRecS.l0 : Nat → List (S170) → Int → Int → Option (Int)
 | 0, _, _, _ => none
 | k + 1, x0, x1, x5 => if x5 < (x0.length : Int) then (if 0 ≤ x5 then (if ((rd_T170 x0 x5).f0) = x1 then (if ((rd_T170 x0 x5).f1) = (wrap64 (x1 + 1)) then ((laws_markText.f k (wrap64 ((wrap64 (x1 + 1)) + 1))).bind fun t172 => (if ((rd_T170 x0 x5).f2).toList = t172.toList then (laws_heldRecS.l0 k x0 (wrap64 ((wrap64 ((wrap64 (x1 + 1)) + 1)) + 1)) (wrap64 (x5 + 1))) else (some (-1)))) else (some (-1))) else (some (-1))) else (none)) else (some x1)
def laws_heldRecS.f (k : Nat) (l0 : List (S170)) (a1 : Int) : Option (Int) := laws_heldRecS.l0 k l0 a1 0
theorem laws_heldRecS.mono_l : ∀ k, (∀ y0 y1 y2, LeO (laws_heldRecS.l0 k y0 y1 y2) (laws_heldRecS.l0 (k + 1) y0 y1 y2))
 | 0 => fun _ _ _ r h => by simp [laws_heldRecS.l0] at h
 | k + 1 => by
  have ih0 := laws_heldRecS.mono_l k
  ·intro y0 y1 y2
   unfold laws_heldRecS.l0
   repeat' first
   | (with_reducible exact ih0 ..)
   | (with_reducible exact laws_markText.mono ..)
   | (with_reducible exact LeO.refl _)
   | (with_reducible exact LeO.none _)
   | (with_reducible refine LeO.ite ?_ ?_)
   | (with_reducible refine LeO.bind ?_ (fun _ => ?_))
   | exact ih0 ..
   | exact laws_markText.mono ..
   | exact LeO.none _
   | refine LeO.ite ?_ ?_
   | refine LeO.bind ?_ (fun _ => ?_)
theorem laws_heldRecS.mono : ∀ a0 a1 k, LeO (laws_heldRecS.f k a0 a1) (laws_heldRecS.f (k + 1) a0 a1) := by
 intro a0 a1 k
 have ih0 := laws_heldRecS.mono_l k
 unfold laws_heldRecS.f
 repeat' first
   | (with_reducible exact ih0 ..)
   | (with_reducible exact laws_markText.mono ..)
   | (with_reducible exact LeO.refl _)
   | (with_reducible exact LeO.none _)
   | (with_reducible refine LeO.ite ?_ ?_)
   | (with_reducible refine LeO.bind ?_ (fun _ => ?_))
   | exact ih0 ..
   | exact laws_markText.mono ..
   | exact LeO.none _
   | refine LeO.ite ?_ ?_
   | refine LeO.bind ?_ (fun _ => ?_)
def laws_heldRecS.T10 : Bool × List (List Nat × List Nat) := (true, [([], []), ([], []), ([0, 1], [0, 1]), ([2], [2]), ([3], [3]), ([], []), ([5], [5]), ([4, 6], [4, 6])])
def laws_heldRecS.B10 : List Nat := [0, 0, 3, 7, 15, 0, 32, 127]
theorem laws_heldRecS.tab10 : rtab .any (opsOf Try.f103 10) = laws_heldRecS.T10 := by kernel_rfl
theorem laws_heldRecS.bits10 : waitsOk laws_heldRecS.T10.2 laws_heldRecS.B10 = true := by kernel_rfl
set_option maxHeartbeats 8000000 in
set_option maxRecDepth 100000 in
theorem laws_heldRecS.calls (k : Nat) (A0 : Option Addr) (c0 : Nat) (l0 : List (S170)) (a1 : Int) (r : Int) (w : World) (hr0 : Kd.C k170 w A0 l0.length l0) (hc0 : l0.length ≤ c0) (h : laws_heldRecS.f k l0 a1 = some r) :
  Calls Try.prog 103 #[.slice A0 l0.length c0, .int .i64 a1] w fun e w' => e = .returned (.int .i64 r) ∧ Below w.heap.size w w' := by
 have HR0 := Aside0.mk hr0
 have HC0 := Aside0.mk hc0
 clear hr0 hc0
 have HB := Aside0.mk (Below.refl w.heap.size w)
 have H : (laws_heldRecS.l0 k l0 a1 0) = some r := h
 clear h
 have H' := Aside0.mk H
 clear H
 go_enter Try.func103, Try.ntmps103
 go_wp2
 go_loopg [1, 5] k (fun kq v1 v5 w' => ∃ (x1_1 : Int) (x5_1 : Int), v1 = .int .i64 x1_1 ∧ v5 = .int .i64 x5_1 ∧ Aside0 (laws_heldRecS.l0 kq l0 x1_1 x5_1 = some r) ∧ Aside0 (kq ≤ k) ∧ Aside0 (Below w.heap.size w w'))
 case atStart => exact ⟨(a1), (0), tq_33, tq_33, H', ⟨Nat.le_refl _⟩, ⟨tq_0⟩⟩
 case round =>
  clear H'
  try clear c1
  try clear p2
  obtain ⟨x1_1, x5_1, rfl, rfl, HA, HK1, HB⟩ := hrel
  cases gk with
  | zero => exact absurd HA.out (by simp [laws_heldRecS.l0])
  | succ k1 =>
   have H := HA.out
   clear HA
   simp only [laws_heldRecS.l0] at H
   by_cases c3 : x5_1 < (l0.length : Int)
   ·rw [if_pos c3] at H
    have c3b0 : decide (x5_1 < (l0.length : Int)) = true := decide_eq_true c3
    clear c3
    by_cases c4 : 0 ≤ x5_1
    ·rw [if_pos c4] at H
     have c4b0 : decide (0 ≤ x5_1) = true := decide_eq_true c4
     clear c4
     by_cases c5 : ((rd_T170 l0 x5_1).f0) = x1_1
     ·rw [if_pos c5] at H
      have c5b0 : (((rd_T170 l0 x5_1).f0) == x1_1) = true := beq_iff_eq.mpr c5
      have c5b1 : (((rd_T170 l0 x5_1).f0) != x1_1) = false := bne_eq_false_iff_eq.mpr c5
      clear c5
      by_cases c6 : ((rd_T170 l0 x5_1).f1) = (wrap64 (x1_1 + 1))
      ·rw [if_pos c6] at H
       have c6b0 : (((rd_T170 l0 x5_1).f1) == (wrap64 (x1_1 + 1))) = true := beq_iff_eq.mpr c6
       have c6b1 : (((rd_T170 l0 x5_1).f1) != (wrap64 (x1_1 + 1))) = false := bne_eq_false_iff_eq.mpr c6
       clear c6
       replace H := Option.bind_eq_some_iff.mp H
       obtain ⟨t172, A70, H⟩ := H
       replace H : (if ((rd_T170 l0 x5_1).f2).toList = t172.toList then (laws_heldRecS.l0 k1 l0 (wrap64 ((wrap64 ((wrap64 (x1_1 + 1)) + 1)) + 1)) (wrap64 (x5_1 + 1))) else (some (-1))) = some r := H
       have A7 := Aside0.mk A70
       clear A70
       by_cases c8 : ((rd_T170 l0 x5_1).f2).toList = t172.toList
       ·rw [if_pos c8] at H
        have c8b0 : (((rd_T170 l0 x5_1).f2).toList == t172.toList) = true := beq_iff_eq.mpr c8
        have c8b1 : (((rd_T170 l0 x5_1).f2).toList != t172.toList) = false := bne_eq_false_iff_eq.mpr c8
        clear c8
        have H' := Aside0.mk H
        clear H
        have p169 : 0 ≤ (x5_1 : Int) := of_decide_eq_true tq_11
        have q169 : x5_1 < (l0.length : Int) := of_decide_eq_true tq_11
        obtain ⟨ad169, e169, hx169_0, hx169_1, hx169_2⟩ := at_T170 HR0.out x5_1 p169 q169
        cases e169
        replace hx169_0 := hx_ HB.out hx169_0
        replace hx169_1 := hx_ HB.out hx169_1
        replace hx169_2 := hx_ HB.out hx169_2
        replace p169 := eq_true p169
        replace q169 := eq_true q169
        have p170 : 0 ≤ (x5_1 : Int) := of_decide_eq_true tq_11
        have q170 : x5_1 < (l0.length : Int) := of_decide_eq_true tq_11
        obtain ⟨ad170, e170, hx170_0, hx170_1, hx170_2⟩ := at_T170 HR0.out x5_1 p170 q170
        obtain rfl : ad169 = ad170 := (by injection e170)
        replace hx170_0 := hx_ HB.out hx170_0
        replace hx170_1 := hx_ HB.out hx170_1
        replace hx170_2 := hx_ HB.out hx170_2
        replace p170 := eq_true p170
        replace q170 := eq_true q170
        try go_wp2
        have n0_ := Aside0.mk (below_drew1 HB.out)
        clear HB
        have HB := n0_
        clear n0_
        have p171 : 0 ≤ (x5_1 : Int) := of_decide_eq_true tq_11
        have q171 : x5_1 < (l0.length : Int) := of_decide_eq_true tq_11
        obtain ⟨ad171, e171, hx171_0, hx171_1, hx171_2⟩ := at_T170 HR0.out x5_1 p171 q171
        have hw171_2 := hx171_2
        have hw171_1 := hx171_1
        have hw171_0 := hx171_0
        obtain rfl : ad169 = ad171 := (by injection e171)
        replace hx171_0 := hx_ HB.out hx171_0
        replace hx171_1 := hx_ HB.out hx171_1
        replace hx171_2 := hx_ HB.out hx171_2
        replace p171 := eq_true p171
        replace q171 := eq_true q171
        refine start_ (n := 8) (S := fun w' => w'.cell? (ad169.add ((x5_1).toNat * 3)) = some (.int .i64 ((rd_T170 l0 x5_1).f0)) ∧ w'.cell? ⟨(ad169.add ((x5_1).toNat * 3)).block, (ad169.add ((x5_1).toNat * 3)).off + 1, none⟩ = some (.int .i64 ((rd_T170 l0 x5_1).f1)) ∧ w'.cell? ⟨(ad169.add ((x5_1).toNat * 3)).block, (ad169.add ((x5_1).toNat * 3)).off + 2, none⟩ = some (.string ((rd_T170 l0 x5_1).f2))) (ds := []) bq_13 (by kernel_rfl) rfl rfl ⟨((HB.out.cell (World.block_lt_of_cell? w _ hw171_0)).trans hw171_0), ((HB.out.cell (World.block_lt_of_cell? w _ hw171_1)).trans hw171_1), ((HB.out.cell (World.block_lt_of_cell? w _ hw171_2)).trans hw171_2)⟩ (fun hHeld => ?_); refine with_tabW laws_heldRecS.tab10 laws_heldRecS.bits10 (fun HT_ HW_ => ?_)
        generalize wr.drew = w9 at HB hx171_0 hx171_1 hx171_2 hHeld ⊢
        refine yq_ (i := 0) (N := some 30) bq_14 (any_of HT_.out (by kernel_rfl)) ?_
        refine yq_ (i := 1) (N := some 31) bq_15 (any_of HT_.out (by kernel_rfl)) ?_
        refine yq_ (i := 2) (N := some 32) bq_16 (any_of HT_.out (by kernel_rfl)) ?_
        refine yq_ (i := 3) (N := some 33) bq_17 (any_of HT_.out (by kernel_rfl)) ?_
        refine yq_ (i := 5) (N := some 35) bq_18 (any_of HT_.out (by kernel_rfl)) ?_
        refine tk_ (i := 4) (N := some 34) bq_19 (take_ofW HT_.out HW_.out (by kernel_rfl)) hHeld ?_
        refine one_ (i := 6) (N := some 36) bq_20 rfl rfl (one_of HT_.out (by kernel_rfl)) (by decide) (fun K hK => ?_)
        refine goes_ Try.func155 (by kernel_rfl) rfl #[.int .i64 (wrap64 ((wrap64 (x1_1 + 1)) + 1))] (by rfl) rfl rfl tq_2 ?_
        with_reducible refine (laws_markText.calls k1 (wrap64 ((wrap64 (x1_1 + 1)) + 1)) t172 _ A7.out).mono ?_
        rintro e w10 ⟨rfl, hb⟩
        refine ⟨_, rfl, ?_⟩
        have n0_ := Aside0.mk (below_step tq_0 hb)
        clear HB
        have HB := n0_
        clear n0_
        (try clear hb)
        (try clear hb2)
        (try clear hk)
        (try clear hi)
        refine hK.out _ _ ⟨((HB.out.cell (World.block_lt_of_cell? w _ hw171_0)).trans hw171_0), ((HB.out.cell (World.block_lt_of_cell? w _ hw171_1)).trans hw171_1), ((HB.out.cell (World.block_lt_of_cell? w _ hw171_2)).trans hw171_2)⟩ (fun hHeld => ?_)
        clear hK K
        refine nm_ (some 36) ?_
        refine yq_ (i := 7) (N := some 37) bq_21 (any_of HT_.out (by kernel_rfl)) ?_
        refine done_ (done_of HT_.out (by kernel_rfl)) ?_
        try go_wp2
        go_roundg k1
        case measure => have := HK1.out; omega
        case rel => exact ⟨(wrap64 ((wrap64 ((wrap64 (x1_1 + 1)) + 1)) + 1)), (wrap64 (x5_1 + 1)), tq_33, tq_33, H', ⟨tq_164⟩, ⟨tq_0⟩⟩
       ·rw [if_neg c8] at H
        have c8b0 : (((rd_T170 l0 x5_1).f2).toList == t172.toList) = false := beq_eq_false_iff_ne.mpr c8
        have c8b1 : (((rd_T170 l0 x5_1).f2).toList != t172.toList) = true := bne_iff_ne.mpr c8
        obtain rfl := Option.some.inj H
        have p169 : 0 ≤ (x5_1 : Int) := of_decide_eq_true tq_11
        have q169 : x5_1 < (l0.length : Int) := of_decide_eq_true tq_11
        obtain ⟨ad169, e169, hx169_0, hx169_1, hx169_2⟩ := at_T170 HR0.out x5_1 p169 q169
        cases e169
        replace hx169_0 := hx_ HB.out hx169_0
        replace hx169_1 := hx_ HB.out hx169_1
        replace hx169_2 := hx_ HB.out hx169_2
        replace p169 := eq_true p169
        replace q169 := eq_true q169
        have p170 : 0 ≤ (x5_1 : Int) := of_decide_eq_true tq_11
        have q170 : x5_1 < (l0.length : Int) := of_decide_eq_true tq_11
        obtain ⟨ad170, e170, hx170_0, hx170_1, hx170_2⟩ := at_T170 HR0.out x5_1 p170 q170
        obtain rfl : ad169 = ad170 := (by injection e170)
        replace hx170_0 := hx_ HB.out hx170_0
        replace hx170_1 := hx_ HB.out hx170_1
        replace hx170_2 := hx_ HB.out hx170_2
        replace p170 := eq_true p170
        replace q170 := eq_true q170
        try go_wp2
        have n0_ := Aside0.mk (below_drew1 HB.out)
        clear HB
        have HB := n0_
        clear n0_
        have p171 : 0 ≤ (x5_1 : Int) := of_decide_eq_true tq_11
        have q171 : x5_1 < (l0.length : Int) := of_decide_eq_true tq_11
        obtain ⟨ad171, e171, hx171_0, hx171_1, hx171_2⟩ := at_T170 HR0.out x5_1 p171 q171
        have hw171_2 := hx171_2
        have hw171_1 := hx171_1
        have hw171_0 := hx171_0
        obtain rfl : ad169 = ad171 := (by injection e171)
        replace hx171_0 := hx_ HB.out hx171_0
        replace hx171_1 := hx_ HB.out hx171_1
        replace hx171_2 := hx_ HB.out hx171_2
        replace p171 := eq_true p171
        replace q171 := eq_true q171
        refine start_ (n := 8) (S := fun w' => w'.cell? (ad169.add ((x5_1).toNat * 3)) = some (.int .i64 ((rd_T170 l0 x5_1).f0)) ∧ w'.cell? ⟨(ad169.add ((x5_1).toNat * 3)).block, (ad169.add ((x5_1).toNat * 3)).off + 1, none⟩ = some (.int .i64 ((rd_T170 l0 x5_1).f1)) ∧ w'.cell? ⟨(ad169.add ((x5_1).toNat * 3)).block, (ad169.add ((x5_1).toNat * 3)).off + 2, none⟩ = some (.string ((rd_T170 l0 x5_1).f2))) (ds := []) bq_13 (by kernel_rfl) rfl rfl ⟨((HB.out.cell (World.block_lt_of_cell? w _ hw171_0)).trans hw171_0), ((HB.out.cell (World.block_lt_of_cell? w _ hw171_1)).trans hw171_1), ((HB.out.cell (World.block_lt_of_cell? w _ hw171_2)).trans hw171_2)⟩ (fun hHeld => ?_); refine with_tabW laws_heldRecS.tab10 laws_heldRecS.bits10 (fun HT_ HW_ => ?_)
        generalize wr.drew = w11 at HB hx171_0 hx171_1 hx171_2 hHeld ⊢
        refine yq_ (i := 0) (N := some 30) bq_14 (any_of HT_.out (by kernel_rfl)) ?_
        refine yq_ (i := 1) (N := some 31) bq_15 (any_of HT_.out (by kernel_rfl)) ?_
        refine yq_ (i := 2) (N := some 32) bq_16 (any_of HT_.out (by kernel_rfl)) ?_
        refine yq_ (i := 3) (N := some 33) bq_17 (any_of HT_.out (by kernel_rfl)) ?_
        refine yq_ (i := 5) (N := some 35) bq_18 (any_of HT_.out (by kernel_rfl)) ?_
        refine tk_ (i := 4) (N := some 34) bq_19 (take_ofW HT_.out HW_.out (by kernel_rfl)) hHeld ?_
        refine one_ (i := 6) (N := some 36) bq_20 rfl rfl (one_of HT_.out (by kernel_rfl)) (by decide) (fun K hK => ?_)
        refine goes_ Try.func155 (by kernel_rfl) rfl #[.int .i64 (wrap64 ((wrap64 (x1_1 + 1)) + 1))] (by rfl) rfl rfl tq_2 ?_
        with_reducible refine (laws_markText.calls k1 (wrap64 ((wrap64 (x1_1 + 1)) + 1)) t172 _ A7.out).mono ?_
        rintro e w12 ⟨rfl, hb⟩
        refine ⟨_, rfl, ?_⟩
        have n0_ := Aside0.mk (below_step tq_0 hb)
        clear HB
        have HB := n0_
        clear n0_
        (try clear hb)
        (try clear hb2)
        (try clear hk)
        (try clear hi)
        refine hK.out _ _ ⟨((HB.out.cell (World.block_lt_of_cell? w _ hw171_0)).trans hw171_0), ((HB.out.cell (World.block_lt_of_cell? w _ hw171_1)).trans hw171_1), ((HB.out.cell (World.block_lt_of_cell? w _ hw171_2)).trans hw171_2)⟩ (fun hHeld => ?_)
        clear hK K
        refine nm_ (some 36) ?_
        refine yq_ (i := 7) (N := some 37) bq_21 (any_of HT_.out (by kernel_rfl)) ?_
        refine done_ (done_of HT_.out (by kernel_rfl)) ?_
        try go_wp2
        go_ret
        exact ⟨tq_7, tq_0⟩
      ·rw [if_neg c6] at H
       have c6b0 : (((rd_T170 l0 x5_1).f1) == (wrap64 (x1_1 + 1))) = false := beq_eq_false_iff_ne.mpr c6
       have c6b1 : (((rd_T170 l0 x5_1).f1) != (wrap64 (x1_1 + 1))) = true := bne_iff_ne.mpr c6
       obtain rfl := Option.some.inj H
       have p169 : 0 ≤ (x5_1 : Int) := of_decide_eq_true tq_11
       have q169 : x5_1 < (l0.length : Int) := of_decide_eq_true tq_11
       obtain ⟨ad169, e169, hx169_0, hx169_1, hx169_2⟩ := at_T170 HR0.out x5_1 p169 q169
       cases e169
       replace hx169_0 := hx_ HB.out hx169_0
       replace hx169_1 := hx_ HB.out hx169_1
       replace hx169_2 := hx_ HB.out hx169_2
       replace p169 := eq_true p169
       replace q169 := eq_true q169
       have p170 : 0 ≤ (x5_1 : Int) := of_decide_eq_true tq_11
       have q170 : x5_1 < (l0.length : Int) := of_decide_eq_true tq_11
       obtain ⟨ad170, e170, hx170_0, hx170_1, hx170_2⟩ := at_T170 HR0.out x5_1 p170 q170
       obtain rfl : ad169 = ad170 := (by injection e170)
       replace hx170_0 := hx_ HB.out hx170_0
       replace hx170_1 := hx_ HB.out hx170_1
       replace hx170_2 := hx_ HB.out hx170_2
       replace p170 := eq_true p170
       replace q170 := eq_true q170
       go_wp2
       go_ret
       exact ⟨tq_7, tq_0⟩
     ·rw [if_neg c5] at H
      have c5b0 : (((rd_T170 l0 x5_1).f0) == x1_1) = false := beq_eq_false_iff_ne.mpr c5
      have c5b1 : (((rd_T170 l0 x5_1).f0) != x1_1) = true := bne_iff_ne.mpr c5
      obtain rfl := Option.some.inj H
      have p169 : 0 ≤ (x5_1 : Int) := of_decide_eq_true tq_11
      have q169 : x5_1 < (l0.length : Int) := of_decide_eq_true tq_11
      obtain ⟨ad169, e169, hx169_0, hx169_1, hx169_2⟩ := at_T170 HR0.out x5_1 p169 q169
      cases e169
      replace hx169_0 := hx_ HB.out hx169_0
      replace hx169_1 := hx_ HB.out hx169_1
      replace hx169_2 := hx_ HB.out hx169_2
      replace p169 := eq_true p169
      replace q169 := eq_true q169
      go_wp2
      go_ret
      exact ⟨tq_7, tq_0⟩
    ·rw [if_neg c4] at H
     exact absurd H (by simp)
   ·rw [if_neg c3] at H
    have c3b0 : decide (x5_1 < (l0.length : Int)) = false := decide_eq_false c3
    clear c3
    obtain rfl := Option.some.inj H
    go_wp2
    go_ret
    exact ⟨tq_7, tq_0⟩

/-! ### laws_heldEntryS: function 104 -/
def laws_heldEntryS.l0 : Nat → List (S59) → Int → Int → Option (Int)
 | 0, _, _, _ => none
 | k + 1, x0, x1, x5 => if x5 < (x0.length : Int) then (if 0 ≤ x5 then (if ((rd_T59 x0 x5).f0) = x1 then ((laws_markText.f k (wrap64 (x1 + 1))).bind fun t175 => (if ((rd_T59 x0 x5).f1).toList = t175.toList then (laws_heldEntryS.l0 k x0 (wrap64 ((wrap64 (x1 + 1)) + 1)) (wrap64 (x5 + 1))) else (some (-1)))) else (some (-1))) else (none)) else (some x1)
def laws_heldEntryS.f (k : Nat) (l0 : List (S59)) (a1 : Int) : Option (Int) := laws_heldEntryS.l0 k l0 a1 0
theorem laws_heldEntryS.mono_l : ∀ k, (∀ y0 y1 y2, LeO (laws_heldEntryS.l0 k y0 y1 y2) (laws_heldEntryS.l0 (k + 1) y0 y1 y2))
 | 0 => fun _ _ _ r h => by simp [laws_heldEntryS.l0] at h
 | k + 1 => by
  have ih0 := laws_heldEntryS.mono_l k
  ·intro y0 y1 y2
   unfold laws_heldEntryS.l0
   repeat' first
   | (with_reducible exact ih0 ..)
   | (with_reducible exact laws_markText.mono ..)
   | (with_reducible exact LeO.refl _)
   | (with_reducible exact LeO.none _)
   | (with_reducible refine LeO.ite ?_ ?_)
   | (with_reducible refine LeO.bind ?_ (fun _ => ?_))
   | exact ih0 ..
   | exact laws_markText.mono ..
   | exact LeO.none _
   | refine LeO.ite ?_ ?_
   | refine LeO.bind ?_ (fun _ => ?_)
theorem laws_heldEntryS.mono : ∀ a0 a1 k, LeO (laws_heldEntryS.f k a0 a1) (laws_heldEntryS.f (k + 1) a0 a1) := by
 intro a0 a1 k
 have ih0 := laws_heldEntryS.mono_l k
 unfold laws_heldEntryS.f
 repeat' first
   | (with_reducible exact ih0 ..)
   | (with_reducible exact laws_markText.mono ..)
   | (with_reducible exact LeO.refl _)
   | (with_reducible exact LeO.none _)
   | (with_reducible refine LeO.ite ?_ ?_)
   | (with_reducible refine LeO.bind ?_ (fun _ => ?_))
   | exact ih0 ..
   | exact laws_markText.mono ..
   | exact LeO.none _
   | refine LeO.ite ?_ ?_
   | refine LeO.bind ?_ (fun _ => ?_)
def laws_heldEntryS.T7 : Bool × List (List Nat × List Nat) := (true, [([], []), ([], []), ([0, 1], [0, 1]), ([2], [2]), ([3], [3]), ([], []), ([5], [5]), ([4, 6], [4, 6])])
def laws_heldEntryS.B7 : List Nat := [0, 0, 3, 7, 15, 0, 32, 127]
theorem laws_heldEntryS.tab7 : rtab .any (opsOf Try.f104 7) = laws_heldEntryS.T7 := by kernel_rfl
theorem laws_heldEntryS.bits7 : waitsOk laws_heldEntryS.T7.2 laws_heldEntryS.B7 = true := by kernel_rfl
set_option maxHeartbeats 8000000 in
set_option maxRecDepth 100000 in
theorem laws_heldEntryS.calls (k : Nat) (A0 : Option Addr) (c0 : Nat) (l0 : List (S59)) (a1 : Int) (r : Int) (w : World) (hr0 : Kd.C k59 w A0 l0.length l0) (hc0 : l0.length ≤ c0) (h : laws_heldEntryS.f k l0 a1 = some r) :
  Calls Try.prog 104 #[.slice A0 l0.length c0, .int .i64 a1] w fun e w' => e = .returned (.int .i64 r) ∧ Below w.heap.size w w' := by
 have HR0 := Aside0.mk hr0
 have HC0 := Aside0.mk hc0
 clear hr0 hc0
 have HB := Aside0.mk (Below.refl w.heap.size w)
 have H : (laws_heldEntryS.l0 k l0 a1 0) = some r := h
 clear h
 have H' := Aside0.mk H
 clear H
 go_enter Try.func104, Try.ntmps104
 go_wp2
 go_loopg [1, 5] k (fun kq v1 v5 w' => ∃ (x1_1 : Int) (x5_1 : Int), v1 = .int .i64 x1_1 ∧ v5 = .int .i64 x5_1 ∧ Aside0 (laws_heldEntryS.l0 kq l0 x1_1 x5_1 = some r) ∧ Aside0 (kq ≤ k) ∧ Aside0 (Below w.heap.size w w'))
 case atStart => exact ⟨(a1), (0), tq_33, tq_33, H', ⟨Nat.le_refl _⟩, ⟨tq_0⟩⟩
 case round =>
  clear H'
  try clear c1
  try clear p2
  obtain ⟨x1_1, x5_1, rfl, rfl, HA, HK1, HB⟩ := hrel
  cases gk with
  | zero => exact absurd HA.out (by simp [laws_heldEntryS.l0])
  | succ k1 =>
   have H := HA.out
   clear HA
   simp only [laws_heldEntryS.l0] at H
   by_cases c3 : x5_1 < (l0.length : Int)
   ·rw [if_pos c3] at H
    have c3b0 : decide (x5_1 < (l0.length : Int)) = true := decide_eq_true c3
    clear c3
    by_cases c4 : 0 ≤ x5_1
    ·rw [if_pos c4] at H
     have c4b0 : decide (0 ≤ x5_1) = true := decide_eq_true c4
     clear c4
     by_cases c5 : ((rd_T59 l0 x5_1).f0) = x1_1
     ·rw [if_pos c5] at H
      have c5b0 : (((rd_T59 l0 x5_1).f0) == x1_1) = true := beq_iff_eq.mpr c5
      have c5b1 : (((rd_T59 l0 x5_1).f0) != x1_1) = false := bne_eq_false_iff_eq.mpr c5
      clear c5
      replace H := Option.bind_eq_some_iff.mp H
      obtain ⟨t175, A60, H⟩ := H
      replace H : (if ((rd_T59 l0 x5_1).f1).toList = t175.toList then (laws_heldEntryS.l0 k1 l0 (wrap64 ((wrap64 (x1_1 + 1)) + 1)) (wrap64 (x5_1 + 1))) else (some (-1))) = some r := H
      have A6 := Aside0.mk A60
      clear A60
      by_cases c7 : ((rd_T59 l0 x5_1).f1).toList = t175.toList
      ·rw [if_pos c7] at H
       have c7b0 : (((rd_T59 l0 x5_1).f1).toList == t175.toList) = true := beq_iff_eq.mpr c7
       have c7b1 : (((rd_T59 l0 x5_1).f1).toList != t175.toList) = false := bne_eq_false_iff_eq.mpr c7
       clear c7
       have H' := Aside0.mk H
       clear H
       have p173 : 0 ≤ (x5_1 : Int) := of_decide_eq_true tq_11
       have q173 : x5_1 < (l0.length : Int) := of_decide_eq_true tq_11
       obtain ⟨ad173, e173, hx173_0, hx173_1⟩ := at_T59 HR0.out x5_1 p173 q173
       cases e173
       replace hx173_0 := hx_ HB.out hx173_0
       replace hx173_1 := hx_ HB.out hx173_1
       replace p173 := eq_true p173
       replace q173 := eq_true q173
       try go_wp2
       have n0_ := Aside0.mk (below_drew1 HB.out)
       clear HB
       have HB := n0_
       clear n0_
       have p174 : 0 ≤ (x5_1 : Int) := of_decide_eq_true tq_11
       have q174 : x5_1 < (l0.length : Int) := of_decide_eq_true tq_11
       obtain ⟨ad174, e174, hx174_0, hx174_1⟩ := at_T59 HR0.out x5_1 p174 q174
       have hw174_1 := hx174_1
       have hw174_0 := hx174_0
       obtain rfl : ad173 = ad174 := (by injection e174)
       replace hx174_0 := hx_ HB.out hx174_0
       replace hx174_1 := hx_ HB.out hx174_1
       replace p174 := eq_true p174
       replace q174 := eq_true q174
       refine start_ (n := 8) (S := fun w' => w'.cell? (ad173.add ((x5_1).toNat * 2)) = some (.int .i64 ((rd_T59 l0 x5_1).f0)) ∧ w'.cell? ⟨(ad173.add ((x5_1).toNat * 2)).block, (ad173.add ((x5_1).toNat * 2)).off + 1, none⟩ = some (.string ((rd_T59 l0 x5_1).f1))) (ds := []) bq_13 (by kernel_rfl) rfl rfl ⟨((HB.out.cell (World.block_lt_of_cell? w _ hw174_0)).trans hw174_0), ((HB.out.cell (World.block_lt_of_cell? w _ hw174_1)).trans hw174_1)⟩ (fun hHeld => ?_); refine with_tabW laws_heldEntryS.tab7 laws_heldEntryS.bits7 (fun HT_ HW_ => ?_)
       generalize wr.drew = w8 at HB hx174_0 hx174_1 hHeld ⊢
       refine yq_ (i := 0) (N := some 21) bq_14 (any_of HT_.out (by kernel_rfl)) ?_
       refine yq_ (i := 1) (N := some 22) bq_15 (any_of HT_.out (by kernel_rfl)) ?_
       refine yq_ (i := 2) (N := some 23) bq_16 (any_of HT_.out (by kernel_rfl)) ?_
       refine yq_ (i := 3) (N := some 24) bq_17 (any_of HT_.out (by kernel_rfl)) ?_
       refine yq_ (i := 5) (N := some 26) bq_18 (any_of HT_.out (by kernel_rfl)) ?_
       refine tk_ (i := 4) (N := some 25) bq_19 (take_ofW HT_.out HW_.out (by kernel_rfl)) hHeld ?_
       refine one_ (i := 6) (N := some 27) bq_20 rfl rfl (one_of HT_.out (by kernel_rfl)) (by decide) (fun K hK => ?_)
       refine goes_ Try.func155 (by kernel_rfl) rfl #[.int .i64 (wrap64 (x1_1 + 1))] (by rfl) rfl rfl tq_2 ?_
       with_reducible refine (laws_markText.calls k1 (wrap64 (x1_1 + 1)) t175 _ A6.out).mono ?_
       rintro e w9 ⟨rfl, hb⟩
       refine ⟨_, rfl, ?_⟩
       have n0_ := Aside0.mk (below_step tq_0 hb)
       clear HB
       have HB := n0_
       clear n0_
       (try clear hb)
       (try clear hb2)
       (try clear hk)
       (try clear hi)
       refine hK.out _ _ ⟨((HB.out.cell (World.block_lt_of_cell? w _ hw174_0)).trans hw174_0), ((HB.out.cell (World.block_lt_of_cell? w _ hw174_1)).trans hw174_1)⟩ (fun hHeld => ?_)
       clear hK K
       refine nm_ (some 27) ?_
       refine yq_ (i := 7) (N := some 28) bq_21 (any_of HT_.out (by kernel_rfl)) ?_
       refine done_ (done_of HT_.out (by kernel_rfl)) ?_
       try go_wp2
       go_roundg k1
       case measure => have := HK1.out; omega
       case rel => exact ⟨(wrap64 ((wrap64 (x1_1 + 1)) + 1)), (wrap64 (x5_1 + 1)), tq_33, tq_33, H', ⟨tq_164⟩, ⟨tq_0⟩⟩
      ·rw [if_neg c7] at H
       have c7b0 : (((rd_T59 l0 x5_1).f1).toList == t175.toList) = false := beq_eq_false_iff_ne.mpr c7
       have c7b1 : (((rd_T59 l0 x5_1).f1).toList != t175.toList) = true := bne_iff_ne.mpr c7
       obtain rfl := Option.some.inj H
       have p173 : 0 ≤ (x5_1 : Int) := of_decide_eq_true tq_11
       have q173 : x5_1 < (l0.length : Int) := of_decide_eq_true tq_11
       obtain ⟨ad173, e173, hx173_0, hx173_1⟩ := at_T59 HR0.out x5_1 p173 q173
       cases e173
       replace hx173_0 := hx_ HB.out hx173_0
       replace hx173_1 := hx_ HB.out hx173_1
       replace p173 := eq_true p173
       replace q173 := eq_true q173
       try go_wp2
       have n0_ := Aside0.mk (below_drew1 HB.out)
       clear HB
       have HB := n0_
       clear n0_
       have p174 : 0 ≤ (x5_1 : Int) := of_decide_eq_true tq_11
       have q174 : x5_1 < (l0.length : Int) := of_decide_eq_true tq_11
       obtain ⟨ad174, e174, hx174_0, hx174_1⟩ := at_T59 HR0.out x5_1 p174 q174
       have hw174_1 := hx174_1
       have hw174_0 := hx174_0
       obtain rfl : ad173 = ad174 := (by injection e174)
       replace hx174_0 := hx_ HB.out hx174_0
       replace hx174_1 := hx_ HB.out hx174_1
       replace p174 := eq_true p174
       replace q174 := eq_true q174
       refine start_ (n := 8) (S := fun w' => w'.cell? (ad173.add ((x5_1).toNat * 2)) = some (.int .i64 ((rd_T59 l0 x5_1).f0)) ∧ w'.cell? ⟨(ad173.add ((x5_1).toNat * 2)).block, (ad173.add ((x5_1).toNat * 2)).off + 1, none⟩ = some (.string ((rd_T59 l0 x5_1).f1))) (ds := []) bq_13 (by kernel_rfl) rfl rfl ⟨((HB.out.cell (World.block_lt_of_cell? w _ hw174_0)).trans hw174_0), ((HB.out.cell (World.block_lt_of_cell? w _ hw174_1)).trans hw174_1)⟩ (fun hHeld => ?_); refine with_tabW laws_heldEntryS.tab7 laws_heldEntryS.bits7 (fun HT_ HW_ => ?_)
       generalize wr.drew = w10 at HB hx174_0 hx174_1 hHeld ⊢
       refine yq_ (i := 0) (N := some 21) bq_14 (any_of HT_.out (by kernel_rfl)) ?_
       refine yq_ (i := 1) (N := some 22) bq_15 (any_of HT_.out (by kernel_rfl)) ?_
       refine yq_ (i := 2) (N := some 23) bq_16 (any_of HT_.out (by kernel_rfl)) ?_
       refine yq_ (i := 3) (N := some 24) bq_17 (any_of HT_.out (by kernel_rfl)) ?_
       refine yq_ (i := 5) (N := some 26) bq_18 (any_of HT_.out (by kernel_rfl)) ?_
       refine tk_ (i := 4) (N := some 25) bq_19 (take_ofW HT_.out HW_.out (by kernel_rfl)) hHeld ?_
       refine one_ (i := 6) (N := some 27) bq_20 rfl rfl (one_of HT_.out (by kernel_rfl)) (by decide) (fun K hK => ?_)
       refine goes_ Try.func155 (by kernel_rfl) rfl #[.int .i64 (wrap64 (x1_1 + 1))] (by rfl) rfl rfl tq_2 ?_
       with_reducible refine (laws_markText.calls k1 (wrap64 (x1_1 + 1)) t175 _ A6.out).mono ?_
       rintro e w11 ⟨rfl, hb⟩
       refine ⟨_, rfl, ?_⟩
       have n0_ := Aside0.mk (below_step tq_0 hb)
       clear HB
       have HB := n0_
       clear n0_
       (try clear hb)
       (try clear hb2)
       (try clear hk)
       (try clear hi)
       refine hK.out _ _ ⟨((HB.out.cell (World.block_lt_of_cell? w _ hw174_0)).trans hw174_0), ((HB.out.cell (World.block_lt_of_cell? w _ hw174_1)).trans hw174_1)⟩ (fun hHeld => ?_)
       clear hK K
       refine nm_ (some 27) ?_
       refine yq_ (i := 7) (N := some 28) bq_21 (any_of HT_.out (by kernel_rfl)) ?_
       refine done_ (done_of HT_.out (by kernel_rfl)) ?_
       try go_wp2
       go_ret
       exact ⟨tq_7, tq_0⟩
     ·rw [if_neg c5] at H
      have c5b0 : (((rd_T59 l0 x5_1).f0) == x1_1) = false := beq_eq_false_iff_ne.mpr c5
      have c5b1 : (((rd_T59 l0 x5_1).f0) != x1_1) = true := bne_iff_ne.mpr c5
      obtain rfl := Option.some.inj H
      have p173 : 0 ≤ (x5_1 : Int) := of_decide_eq_true tq_11
      have q173 : x5_1 < (l0.length : Int) := of_decide_eq_true tq_11
      obtain ⟨ad173, e173, hx173_0, hx173_1⟩ := at_T59 HR0.out x5_1 p173 q173
      cases e173
      replace hx173_0 := hx_ HB.out hx173_0
      replace hx173_1 := hx_ HB.out hx173_1
      replace p173 := eq_true p173
      replace q173 := eq_true q173
      go_wp2
      go_ret
      exact ⟨tq_7, tq_0⟩
    ·rw [if_neg c4] at H
     exact absurd H (by simp)
   ·rw [if_neg c3] at H
    have c3b0 : decide (x5_1 < (l0.length : Int)) = false := decide_eq_false c3
    clear c3
    obtain rfl := Option.some.inj H
    go_wp2
    go_ret
    exact ⟨tq_7, tq_0⟩

/-! ### laws_heldInode: function 32 -/
def laws_heldInode.f (k : Nat) (a0_0 : Int) (a0_1 : Int) (a0_2 : Int) (a0_3 : ByteArray) (l0_4 : List (S170)) (l0_5 : List (S59)) (a1 : Int) : Option (Int) := (laws_heldRecS.f k l0_4 a1).bind fun t177 => (if t177 < 0 then (some (-1)) else ((laws_heldEntryS.f k l0_5 t177).bind fun t178 => (if t178 < 0 then (some (-1)) else (some t178))))
theorem laws_heldInode.mono : ∀ a0 a1 a2 a3 a4 a5 a6 k, LeO (laws_heldInode.f k a0 a1 a2 a3 a4 a5 a6) (laws_heldInode.f (k + 1) a0 a1 a2 a3 a4 a5 a6) := by
 intro a0 a1 a2 a3 a4 a5 a6 k
 unfold laws_heldInode.f
 repeat' first
   | (with_reducible exact laws_heldEntryS.mono ..)
   | (with_reducible exact laws_heldRecS.mono ..)
   | (with_reducible exact LeO.refl _)
   | (with_reducible exact LeO.none _)
   | (with_reducible refine LeO.ite ?_ ?_)
   | (with_reducible refine LeO.bind ?_ (fun _ => ?_))
   | exact laws_heldEntryS.mono ..
   | exact laws_heldRecS.mono ..
   | exact LeO.none _
   | refine LeO.ite ?_ ?_
   | refine LeO.bind ?_ (fun _ => ?_)
set_option maxHeartbeats 8000000 in
set_option maxRecDepth 100000 in
theorem laws_heldInode.calls (k : Nat) (a0_0 : Int) (a0_1 : Int) (a0_2 : Int) (a0_3 : ByteArray) (A0_4 : Option Addr) (c0_4 : Nat) (l0_4 : List (S170)) (A0_5 : Option Addr) (c0_5 : Nat) (l0_5 : List (S59)) (a1 : Int) (r : Int) (w : World) (hr0_4 : Kd.C k170 w A0_4 l0_4.length l0_4) (hc0_4 : l0_4.length ≤ c0_4) (hr0_5 : Kd.C k59 w A0_5 l0_5.length l0_5) (hc0_5 : l0_5.length ≤ c0_5) (h : laws_heldInode.f k a0_0 a0_1 a0_2 a0_3 l0_4 l0_5 a1 = some r) :
  Calls Try.prog 32 #[.agg #[.int .i64 a0_0, .int .i64 a0_1, .int .i64 a0_2, .string a0_3, .slice A0_4 l0_4.length c0_4, .slice A0_5 l0_5.length c0_5], .int .i64 a1] w fun e w' => e = .returned (.int .i64 r) ∧ Below w.heap.size w w' := by
 have hu49 := Try.underlying49
 have HR0_4 := Aside0.mk hr0_4
 have HC0_4 := Aside0.mk hc0_4
 clear hr0_4 hc0_4
 have HR0_5 := Aside0.mk hr0_5
 have HC0_5 := Aside0.mk hc0_5
 clear hr0_5 hc0_5
 have HB := Aside0.mk (Below.refl w.heap.size w)
 have H : ((laws_heldRecS.f k l0_4 a1).bind fun t177 => (if t177 < 0 then (some (-1)) else ((laws_heldEntryS.f k l0_5 t177).bind fun t178 => (if t178 < 0 then (some (-1)) else (some t178))))) = some r := h
 clear h
 replace H := Option.bind_eq_some_iff.mp H
 obtain ⟨t177, A30, H⟩ := H
 replace H : (if t177 < 0 then (some (-1)) else ((laws_heldEntryS.f k l0_5 t177).bind fun t178 => (if t178 < 0 then (some (-1)) else (some t178)))) = some r := H
 have A3 := Aside0.mk A30
 clear A30
 by_cases c4 : t177 < 0
 ·rw [if_pos c4] at H
  have c4b0 : decide (t177 < 0) = true := decide_eq_true c4
  clear c4
  obtain rfl := Option.some.inj H
  go_enter Try.func32, Try.ntmps32
  go_wp2_with (first | ((with_reducible refine gate_dst (N := 2) rfl ?_); refine box_event ?hg (N := 2) ?hd (cs := #[.int .i64 a0_0, .int .i64 a0_1, .int .i64 a0_2, .string a0_3, .slice A0_4 l0_4.length c0_4, .slice A0_5 l0_5.length c0_5]) (t := 49) ?hr ?_; (case hd => rfl); (case hg => rfl); (case hr => first | (go_simp; done) | (go_simp; rfl)); intro gb176 hg w5 hbox hb; have z_ := p_ (below_step tq_0 hb) <| p_ (hbox) <| p_ (gb_ hg tq_0) <| a_ (gb_ hg tq_0); clear HB; obtain ⟨HB, BK176, GW176, GE176⟩ := z_; clear hb hbox hg; have hcz6_0 := bc_ BK176.out 0; have hcz6_1 := bc_ BK176.out 1; have hcz6_2 := bc_ BK176.out 2; have hcz6_3 := bc_ BK176.out 3; have hcz6_4 := bc_ BK176.out 4; have hcz6_5 := bc_ BK176.out 5; have hfz6_0 := blk_frozen BK176.out 0; have hfz6_1 := blk_frozen BK176.out 1; have hfz6_2 := blk_frozen BK176.out 2; have hfz6_3 := blk_frozen BK176.out 3; have hfz6_4 := blk_frozen BK176.out 4; have hfz6_5 := blk_frozen BK176.out 5) | ((with_reducible refine gate_callee (f := 103) rfl ?_); refine goesL_ (some 8) rfl rfl Try.func103 (by kernel_rfl) rfl #[.slice A0_4 l0_4.length c0_4, .int .i64 a1] rfl tq_2 ?_; (with_reducible refine (laws_heldRecS.calls k _ _ l0_4 a1 t177 _ ?side1 ?side2 A3.out).mono ?_); (case side1 => exact tq_15); (case side2 => exact HC0_4.out); rintro e w7 ⟨rfl, hb⟩; refine ⟨_, rfl, ?_⟩; have z_ := p_ (blk_below tq_113 hb) <| a_ (below_step tq_50 hb); clear BK176 HB; obtain ⟨BK176, HB⟩ := z_; (try clear hb); (try clear hb2); (try clear hk); (try clear hi)))
  go_ret
  exact ⟨tq_7, tq_50⟩
 ·rw [if_neg c4] at H
  have c4b0 : decide (t177 < 0) = false := decide_eq_false c4
  clear c4
  replace H := Option.bind_eq_some_iff.mp H
  obtain ⟨t178, A80, H⟩ := H
  replace H : (if t178 < 0 then (some (-1)) else (some t178)) = some r := H
  have A8 := Aside0.mk A80
  clear A80
  by_cases c9 : t178 < 0
  ·rw [if_pos c9] at H
   have c9b0 : decide (t178 < 0) = true := decide_eq_true c9
   clear c9
   obtain rfl := Option.some.inj H
   go_enter Try.func32, Try.ntmps32
   go_wp2_with (first | ((with_reducible refine gate_dst (N := 2) rfl ?_); refine box_event ?hg (N := 2) ?hd (cs := #[.int .i64 a0_0, .int .i64 a0_1, .int .i64 a0_2, .string a0_3, .slice A0_4 l0_4.length c0_4, .slice A0_5 l0_5.length c0_5]) (t := 49) ?hr ?_; (case hd => rfl); (case hg => rfl); (case hr => first | (go_simp; done) | (go_simp; rfl)); intro gb176 hg w10 hbox hb; have z_ := p_ (below_step tq_0 hb) <| p_ (hbox) <| p_ (gb_ hg tq_0) <| a_ (gb_ hg tq_0); clear HB; obtain ⟨HB, BK176, GW176, GE176⟩ := z_; clear hb hbox hg; have hcz11_0 := bc_ BK176.out 0; have hcz11_1 := bc_ BK176.out 1; have hcz11_2 := bc_ BK176.out 2; have hcz11_3 := bc_ BK176.out 3; have hcz11_4 := bc_ BK176.out 4; have hcz11_5 := bc_ BK176.out 5; have hfz11_0 := blk_frozen BK176.out 0; have hfz11_1 := blk_frozen BK176.out 1; have hfz11_2 := blk_frozen BK176.out 2; have hfz11_3 := blk_frozen BK176.out 3; have hfz11_4 := blk_frozen BK176.out 4; have hfz11_5 := blk_frozen BK176.out 5) | ((with_reducible refine gate_callee (f := 103) rfl ?_); refine goesL_ (some 8) rfl rfl Try.func103 (by kernel_rfl) rfl #[.slice A0_4 l0_4.length c0_4, .int .i64 a1] rfl tq_2 ?_; (with_reducible refine (laws_heldRecS.calls k _ _ l0_4 a1 t177 _ ?side1 ?side2 A3.out).mono ?_); (case side1 => exact tq_15); (case side2 => exact HC0_4.out); rintro e w12 ⟨rfl, hb⟩; refine ⟨_, rfl, ?_⟩; have z_ := p_ (blk_below tq_113 hb) <| a_ (below_step tq_50 hb); clear BK176 HB; obtain ⟨BK176, HB⟩ := z_; (try clear hb); (try clear hb2); (try clear hk); (try clear hi); have hcz13_0 := bc_ BK176.out 0; have hcz13_1 := bc_ BK176.out 1; have hcz13_2 := bc_ BK176.out 2; have hcz13_3 := bc_ BK176.out 3; have hcz13_4 := bc_ BK176.out 4; have hcz13_5 := bc_ BK176.out 5; have hfz13_0 := blk_frozen BK176.out 0; have hfz13_1 := blk_frozen BK176.out 1; have hfz13_2 := blk_frozen BK176.out 2; have hfz13_3 := blk_frozen BK176.out 3; have hfz13_4 := blk_frozen BK176.out 4; have hfz13_5 := blk_frozen BK176.out 5) | ((with_reducible refine gate_callee (f := 104) rfl ?_); refine goesL_ (some 14) rfl rfl Try.func104 (by kernel_rfl) rfl #[.slice A0_5 l0_5.length c0_5, .int .i64 t177] rfl tq_2 ?_; (with_reducible refine (laws_heldEntryS.calls k _ _ l0_5 t177 t178 _ ?side1 ?side2 A8.out).mono ?_); (case side1 => exact tq_24); (case side2 => exact HC0_5.out); rintro e w14 ⟨rfl, hb⟩; refine ⟨_, rfl, ?_⟩; have z_ := p_ (blk_below tq_113 hb) <| a_ (below_step tq_50 hb); clear BK176 HB; obtain ⟨BK176, HB⟩ := z_; (try clear hb); (try clear hb2); (try clear hk); (try clear hi)))
   go_ret
   exact ⟨tq_7, tq_50⟩
  ·rw [if_neg c9] at H
   have c9b0 : decide (t178 < 0) = false := decide_eq_false c9
   clear c9
   obtain rfl := Option.some.inj H
   go_enter Try.func32, Try.ntmps32
   go_wp2_with (first | ((with_reducible refine gate_dst (N := 2) rfl ?_); refine box_event ?hg (N := 2) ?hd (cs := #[.int .i64 a0_0, .int .i64 a0_1, .int .i64 a0_2, .string a0_3, .slice A0_4 l0_4.length c0_4, .slice A0_5 l0_5.length c0_5]) (t := 49) ?hr ?_; (case hd => rfl); (case hg => rfl); (case hr => first | (go_simp; done) | (go_simp; rfl)); intro gb176 hg w15 hbox hb; have z_ := p_ (below_step tq_0 hb) <| p_ (hbox) <| p_ (gb_ hg tq_0) <| a_ (gb_ hg tq_0); clear HB; obtain ⟨HB, BK176, GW176, GE176⟩ := z_; clear hb hbox hg; have hcz16_0 := bc_ BK176.out 0; have hcz16_1 := bc_ BK176.out 1; have hcz16_2 := bc_ BK176.out 2; have hcz16_3 := bc_ BK176.out 3; have hcz16_4 := bc_ BK176.out 4; have hcz16_5 := bc_ BK176.out 5; have hfz16_0 := blk_frozen BK176.out 0; have hfz16_1 := blk_frozen BK176.out 1; have hfz16_2 := blk_frozen BK176.out 2; have hfz16_3 := blk_frozen BK176.out 3; have hfz16_4 := blk_frozen BK176.out 4; have hfz16_5 := blk_frozen BK176.out 5) | ((with_reducible refine gate_callee (f := 103) rfl ?_); refine goesL_ (some 8) rfl rfl Try.func103 (by kernel_rfl) rfl #[.slice A0_4 l0_4.length c0_4, .int .i64 a1] rfl tq_2 ?_; (with_reducible refine (laws_heldRecS.calls k _ _ l0_4 a1 t177 _ ?side1 ?side2 A3.out).mono ?_); (case side1 => exact tq_15); (case side2 => exact HC0_4.out); rintro e w17 ⟨rfl, hb⟩; refine ⟨_, rfl, ?_⟩; have z_ := p_ (blk_below tq_113 hb) <| a_ (below_step tq_50 hb); clear BK176 HB; obtain ⟨BK176, HB⟩ := z_; (try clear hb); (try clear hb2); (try clear hk); (try clear hi); have hcz18_0 := bc_ BK176.out 0; have hcz18_1 := bc_ BK176.out 1; have hcz18_2 := bc_ BK176.out 2; have hcz18_3 := bc_ BK176.out 3; have hcz18_4 := bc_ BK176.out 4; have hcz18_5 := bc_ BK176.out 5; have hfz18_0 := blk_frozen BK176.out 0; have hfz18_1 := blk_frozen BK176.out 1; have hfz18_2 := blk_frozen BK176.out 2; have hfz18_3 := blk_frozen BK176.out 3; have hfz18_4 := blk_frozen BK176.out 4; have hfz18_5 := blk_frozen BK176.out 5) | ((with_reducible refine gate_callee (f := 104) rfl ?_); refine goesL_ (some 14) rfl rfl Try.func104 (by kernel_rfl) rfl #[.slice A0_5 l0_5.length c0_5, .int .i64 t177] rfl tq_2 ?_; (with_reducible refine (laws_heldEntryS.calls k _ _ l0_5 t177 t178 _ ?side1 ?side2 A8.out).mono ?_); (case side1 => exact tq_24); (case side2 => exact HC0_5.out); rintro e w19 ⟨rfl, hb⟩; refine ⟨_, rfl, ?_⟩; have z_ := p_ (blk_below tq_113 hb) <| a_ (below_step tq_50 hb); clear BK176 HB; obtain ⟨BK176, HB⟩ := z_; (try clear hb); (try clear hb2); (try clear hk); (try clear hi)))
   go_ret
   exact ⟨tq_7, tq_50⟩

/-! ### spec_l12Copy: function 93 -/
def spec_l12Copy.f (a0_0 : Int) (a0_1 : Int) (a0_2 : Int) (a0_3 : ByteArray) (l0_4 : List (S170)) (l0_5 : List (S59)) : Option (Int × Int × Int × ByteArray × (List (S170)) × (List (S59))) := (some (([] : List (S170)) : List (S170))).bind fun y181 => (if y181.length + l0_4.length < 4398046511104 then ((some (([] : List (S59)) : List (S59))).bind fun y187 => (if y187.length + l0_5.length < 5864062014805 then (some (a0_0, a0_1, a0_2, a0_3, (y181 ++ l0_4), (y187 ++ l0_5))) else (none))) else (none))
set_option maxHeartbeats 8000000 in
set_option maxRecDepth 100000 in
theorem spec_l12Copy.calls (a0_0 : Int) (a0_1 : Int) (a0_2 : Int) (a0_3 : ByteArray) (A0_4 : Option Addr) (c0_4 : Nat) (l0_4 : List (S170)) (A0_5 : Option Addr) (c0_5 : Nat) (l0_5 : List (S59)) (r1 : Int) (r2 : Int) (r3 : Int) (r4 : ByteArray) (r5 : List (S170)) (r6 : List (S59)) (w : World) (hr0_4 : Kd.C k170 w A0_4 l0_4.length l0_4) (hc0_4 : l0_4.length ≤ c0_4) (hr0_5 : Kd.C k59 w A0_5 l0_5.length l0_5) (hc0_5 : l0_5.length ≤ c0_5) (h : spec_l12Copy.f a0_0 a0_1 a0_2 a0_3 l0_4 l0_5 = some (r1, r2, r3, r4, r5, r6)) :
  Calls Try.prog 93 #[.agg #[.int .i64 a0_0, .int .i64 a0_1, .int .i64 a0_2, .string a0_3, .slice A0_4 l0_4.length c0_4, .slice A0_5 l0_5.length c0_5]] w fun e w' => ∃ v4_ v5_ : Value, e = .returned (.agg #[.int .i64 r1, .int .i64 r2, .int .i64 r3, .string r4, v4_, v5_]) ∧ Kd.R k170 170 w' w.heap.size (fun _ => True) v4_ r5 ∧ Kd.R k59 59 w' w.heap.size (fun _ => True) v5_ r6 ∧ Below w.heap.size w w' := by
 have hu49 := Try.underlying49
 have HR0_4 := Aside0.mk hr0_4
 have HC0_4 := Aside0.mk hc0_4
 clear hr0_4 hc0_4
 have HR0_5 := Aside0.mk hr0_5
 have HC0_5 := Aside0.mk hc0_5
 clear hr0_5 hc0_5
 have HB := Aside0.mk (Below.refl w.heap.size w)
 have H : ((some (([] : List (S170)) : List (S170))).bind fun y181 => (if y181.length + l0_4.length < 4398046511104 then ((some (([] : List (S59)) : List (S59))).bind fun y187 => (if y187.length + l0_5.length < 5864062014805 then (some (a0_0, a0_1, a0_2, a0_3, (y181 ++ l0_4), (y187 ++ l0_5))) else (none))) else (none))) = some (r1, r2, r3, r4, r5, r6) := h
 clear h
 obtain ⟨y181, hy181⟩ : ∃ y_ : List (S170), y_ = (([] : List (S170))) := ⟨_, rfl⟩
 replace H : (if y181.length + l0_4.length < 4398046511104 then ((some (([] : List (S59)) : List (S59))).bind fun y187 => (if y187.length + l0_5.length < 5864062014805 then (some (a0_0, a0_1, a0_2, a0_3, (y181 ++ l0_4), (y187 ++ l0_5))) else (none))) else (none)) = some (r1, r2, r3, r4, r5, r6) := by first | (rw [hy181]; with_reducible exact H) | (have H2_ := (Option.bind_some _ _).symm.trans H; rw [hy181]; with_reducible exact H2_) | (have H2_ := (Option.bind_some _ _).symm.trans H; with_reducible exact H2_) | with_reducible exact H | (rw [hy181]; exact H) | exact H
 have Ny181 := Aside0.mk hy181
 clear hy181
 by_cases c2 : y181.length + l0_4.length < 4398046511104
 ·rw [if_pos c2] at H
  have LMc2 := Aside0.mk c2
  clear c2
  obtain ⟨y184, hy184⟩ : ∃ y_ : List (S170), y_ = (y181 ++ l0_4) := ⟨_, rfl⟩
  replace H : ((some (([] : List (S59)) : List (S59))).bind fun y187 => (if y187.length + l0_5.length < 5864062014805 then (some (a0_0, a0_1, a0_2, a0_3, y184, (y187 ++ l0_5))) else (none))) = some (r1, r2, r3, r4, r5, r6) := by first | (rw [hy184]; with_reducible exact H) | (have H2_ := (Option.bind_some _ _).symm.trans H; rw [hy184]; with_reducible exact H2_) | (have H2_ := (Option.bind_some _ _).symm.trans H; with_reducible exact H2_) | with_reducible exact H | (rw [hy184]; exact H) | exact H
  have Ny184 := Aside0.mk hy184
  clear hy184
  obtain ⟨y187, hy187⟩ : ∃ y_ : List (S59), y_ = (([] : List (S59))) := ⟨_, rfl⟩
  replace H : (if y187.length + l0_5.length < 5864062014805 then (some (a0_0, a0_1, a0_2, a0_3, y184, (y187 ++ l0_5))) else (none)) = some (r1, r2, r3, r4, r5, r6) := by first | (rw [hy187]; with_reducible exact H) | (have H2_ := (Option.bind_some _ _).symm.trans H; rw [hy187]; with_reducible exact H2_) | (have H2_ := (Option.bind_some _ _).symm.trans H; with_reducible exact H2_) | with_reducible exact H | (rw [hy187]; exact H) | exact H
  have Ny187 := Aside0.mk hy187
  clear hy187
  by_cases c3 : y187.length + l0_5.length < 5864062014805
  ·rw [if_pos c3] at H
   have LMc3 := Aside0.mk c3
   clear c3
   obtain ⟨y190, hy190⟩ : ∃ y_ : List (S59), y_ = (y187 ++ l0_5) := ⟨_, rfl⟩
   replace H : (some (a0_0, a0_1, a0_2, a0_3, y184, y190)) = some (r1, r2, r3, r4, r5, r6) := by first | (rw [hy190]; with_reducible exact H) | (have H2_ := (Option.bind_some _ _).symm.trans H; rw [hy190]; with_reducible exact H2_) | (have H2_ := (Option.bind_some _ _).symm.trans H; with_reducible exact H2_) | with_reducible exact H | (rw [hy190]; exact H) | exact H
   have Ny190 := Aside0.mk hy190
   clear hy190
   simp only [Option.some.injEq, Prod.mk.injEq] at H
   obtain ⟨rfl, rfl, rfl, rfl, rfl, rfl⟩ := H
   go_enter Try.func93, Try.ntmps93
   go_wp2_with (first | ((with_reducible refine gate_dst (N := 1) rfl ?_); refine box_event ?hg (N := 1) ?hd (cs := #[.int .i64 a0_0, .int .i64 a0_1, .int .i64 a0_2, .string a0_3, .slice A0_4 l0_4.length c0_4, .slice A0_5 l0_5.length c0_5]) (t := 49) ?hr ?_; (case hd => rfl); (case hg => rfl); (case hr => first | (go_simp; done) | (go_simp; rfl)); intro gb179 hg w4 hbox hb; have z_ := p_ (below_step tq_0 hb) <| p_ (hbox) <| p_ (gb_ hg tq_0) <| a_ (gb_ hg tq_0); clear HB; obtain ⟨HB, BK179, GW179, GE179⟩ := z_; clear hb hbox hg) | ((with_reducible refine gate_dst (N := 2) rfl ?_); refine box_event ?hg (N := 2) ?hd (cs := #[.int .i64 0, .int .i64 0, .int .i64 0, .string (⟨#[]⟩ : ByteArray), .slice none 0 0, .slice none 0 0]) (t := 49) ?hr ?_; (case hd => rfl); (case hg => rfl); (case hr => first | (go_simp; done) | (go_simp; rfl)); intro gb180 hg w5 hbox hb; have z_ := p_ (blk_below tq_92 hb) <| p_ (below_step tq_133 hb) <| p_ (hbox) <| p_ (gb_ hg tq_133) <| p_ (gb_ hg tq_133) <| p_ (ltne_ hg (blk_lt tq_92)) <| a_ (gtne_ hg (blk_lt tq_92)); clear BK179 HB; obtain ⟨BK179, HB, BK180, GW180, GE180, NB179_180, NB180_179⟩ := z_; clear hb hbox hg) | ((with_reducible refine gate_dst (N := 3) rfl ?_); refine Kd.R_lit k170 _ 170 ?hg (N := 3) ?hd (xs := ([] : List (S170))) (inner := []) (ok := fun _ => True) (okp := fun _ => True) ?hr ?hp (fun _ hk => hk) trivial (Below.refl _ _) (Nat.le_refl _) (by simp) ?_; (case hd => rfl); (case hg => rfl); (case hr => first | (go_simp; done) | (go_simp; rfl)); (case hp => exact (Reps.none _ _)); intro v182 w6 ho7 hb hg_ hnew_; clear hg_ hnew_; (first | rw [← Ny181.out] at ho7 | (simp only [Int.reduceToNat] at ho7; rw [← Ny181.out] at ho7)); have z_ := p_ (Kd.R_lower ho7 (below_size tq_37)) <| p_ (blk_below tq_92 hb) <| p_ (blk_below tq_157 hb) <| a_ (below_step tq_37 hb); clear BK179 BK180 HB; obtain ⟨HO183, BK179, BK180, HB⟩ := z_; clear hb ho7; have hnb8 := NB179_180.out; have hnc8 := NB180_179.out; have hcz9_0 := bc_ BK179.out 0; have hcz9_1 := bc_ BK179.out 1; have hcz9_2 := bc_ BK179.out 2; have hcz9_3 := bc_ BK179.out 3; have hcz9_4 := bc_ BK179.out 4; have hcz9_5 := bc_ BK179.out 5; have hfz9_0 := blk_frozen BK179.out 0; have hfz9_1 := blk_frozen BK179.out 1; have hfz9_2 := blk_frozen BK179.out 2; have hfz9_3 := blk_frozen BK179.out 3; have hfz9_4 := blk_frozen BK179.out 4; have hfz9_5 := blk_frozen BK179.out 5) | ((with_reducible refine gate_builtin (b := .append) (xs := #[.tmp 3, .tmp 5]) rfl ?_); at_builtin; refine Kd.R_append_rows k170 (w0 := w) w.heap.size rfl (.tmp 3) (.tmp 5) 46 170 (.agg #[(.int .i64 0), (.int .i64 0), (.string ⟨#[]⟩)]) 32 rfl Try.underlying46 info170 rfl (by decide) (by omega) v182 y181 l0_4 _ _ _ (fun _ => True) (fun _ => False) rfl rfl ?aO ?aR (fun _ _ h => h) (fun _ h => h.elim) ?aF ?aB ?aS ?aL ?_; (case aR => exact tq_15); (case aB => exact tq_37); (case aF => exact (fun _ _ => trivial)); (case aO => exact (by (with_reducible repeat (first | apply Kd.R_alloc | apply Kd.R_drewN | apply Kd.R_drew)); exact HO183.out)); (case aS => exact (below_size tq_37)); (case aL => have := LMc2.out; omega); intro v185 w10 ho hb hg hat; rw [← Ny184.out] at ho; have z_ := p_ (blk_grown (g := gb179) (o := .cells #[.int .i64 a0_0, .int .i64 a0_1, .int .i64 a0_2, .string a0_3, .slice A0_4 l0_4.length c0_4, .slice A0_5 l0_5.length c0_5] 49 (0, 0)) tq_92 hg (Kd.R_ne HO183.out BK179.out (by decide))) <| p_ (blk_grown (g := gb180) (o := .cells #[.int .i64 0, .int .i64 0, .int .i64 0, .string (⟨#[]⟩ : ByteArray), .slice none 0 0, .slice none 0 0] 49 (0, 0)) tq_157 hg (Kd.R_ne HO183.out BK180.out (by decide))) <| p_ (hb) <| a_ (ho); clear BK179 BK180 HB HO183; obtain ⟨BK179, BK180, HB, HO186⟩ := z_; clear ho hb hg hat; obtain ⟨Ao11, co11, eo11⟩ := Kd.R_slice HO186.out; subst eo11; have hcz12_0 := bc_ BK179.out 0; have hcz12_1 := bc_ BK179.out 1; have hcz12_2 := bc_ BK179.out 2; have hcz12_3 := bc_ BK179.out 3; have hcz12_4 := bc_ BK179.out 4; have hcz12_5 := bc_ BK179.out 5; have hfz12_0 := blk_frozen BK179.out 0; have hfz12_1 := blk_frozen BK179.out 1; have hfz12_2 := blk_frozen BK179.out 2; have hfz12_3 := blk_frozen BK179.out 3; have hfz12_4 := blk_frozen BK179.out 4; have hfz12_5 := blk_frozen BK179.out 5) | ((with_reducible refine gate_dst (N := 8) rfl ?_); refine Kd.R_lit k59 _ 59 ?hg (N := 8) ?hd (xs := ([] : List (S59))) (inner := []) (ok := fun _ => True) (okp := fun _ => True) ?hr ?hp (fun _ hk => hk) trivial (Below.refl _ _) (Nat.le_refl _) (by simp) ?_; (case hd => rfl); (case hg => rfl); (case hr => first | (go_simp; done) | (go_simp; rfl)); (case hp => exact (Reps.none _ _)); intro v188 w13 ho14 hb hg_ hnew_; clear hg_ hnew_; (first | rw [← Ny187.out] at ho14 | (simp only [Int.reduceToNat] at ho14; rw [← Ny187.out] at ho14)); have z_ := p_ (Kd.R_below (by (with_reducible repeat (first | apply Kd.R_alloc | apply Kd.R_drewN | apply Kd.R_drew)); exact (Kd.R_mono (Kd.R_far (p := ⟨gb179, 4, none⟩) (Kd.R_types HO186.out BK179.out (by decide)) (fun _ hk => hk.2) (.slice Ao11 y184.length co11)) (fun _ h_ => h_.1))) hb) <| p_ (Kd.R_lower ho14 (below_size tq_37)) <| p_ (blk_below (g := gb179) (o := .cells #[.int .i64 a0_0, .int .i64 a0_1, .int .i64 a0_2, .string a0_3, .slice Ao11 y184.length co11, .slice A0_5 l0_5.length c0_5] 49 (0, 0)) (by (with_reducible repeat (first | refine blk_drewN ?_ _ | refine blk_drew ?_ | refine blk_alloc ?_ _)); refine blk_put (cs := #[.int .i64 a0_0, .int .i64 a0_1, .int .i64 a0_2, .string a0_3, .slice A0_4 l0_4.length c0_4, .slice A0_5 l0_5.length c0_5]) ?_ 4 _ rfl; (with_reducible repeat (first | refine blk_drewN ?_ _ | refine blk_drew ?_ | refine blk_alloc ?_ _)); exact BK179.out) hb) <| p_ (blk_below (g := gb180) (o := .cells #[.int .i64 0, .int .i64 0, .int .i64 0, .string (⟨#[]⟩ : ByteArray), .slice none 0 0, .slice none 0 0] 49 (0, 0)) (by (with_reducible repeat (first | refine blk_drewN ?_ _ | refine blk_drew ?_ | refine blk_alloc ?_ _)); refine blk_far ?_ NB180_179.out _; (with_reducible repeat (first | refine blk_drewN ?_ _ | refine blk_drew ?_ | refine blk_alloc ?_ _)); exact BK180.out) hb) <| a_ (below_step tq_37 hb); clear HO186 BK179 BK180 HB; obtain ⟨HO186, HO189, BK179, BK180, HB⟩ := z_; clear hb ho14; have hcz15_0 := bc_ BK179.out 0; have hcz15_1 := bc_ BK179.out 1; have hcz15_2 := bc_ BK179.out 2; have hcz15_3 := bc_ BK179.out 3; have hcz15_4 := bc_ BK179.out 4; have hcz15_5 := bc_ BK179.out 5; have hfz15_0 := blk_frozen BK179.out 0; have hfz15_1 := blk_frozen BK179.out 1; have hfz15_2 := blk_frozen BK179.out 2; have hfz15_3 := blk_frozen BK179.out 3; have hfz15_4 := blk_frozen BK179.out 4; have hfz15_5 := blk_frozen BK179.out 5) | ((with_reducible refine gate_builtin (b := .append) (xs := #[.tmp 8, .tmp 10]) rfl ?_); at_builtin; refine Kd.R_append_rows k59 (w0 := w) w.heap.size rfl (.tmp 8) (.tmp 10) 47 59 (.agg #[(.int .i64 0), (.string ⟨#[]⟩)]) 24 rfl Try.underlying47 info59 rfl (by decide) (by omega) v188 y187 l0_5 _ _ _ (fun _ => True) (fun _ => False) rfl rfl ?aO ?aR (fun _ _ h => h) (fun _ h => h.elim) ?aF ?aB ?aS ?aL ?_; (case aR => exact tq_24); (case aB => exact tq_37); (case aF => exact (fun _ _ => trivial)); (case aO => exact (by (with_reducible repeat (first | apply Kd.R_alloc | apply Kd.R_drewN | apply Kd.R_drew)); exact HO189.out)); (case aS => exact (below_size tq_37)); (case aL => have := LMc3.out; omega); intro v191 w16 ho hb hg hat; rw [← Ny190.out] at ho; have z_ := p_ (blk_grown (g := gb179) (o := .cells #[.int .i64 a0_0, .int .i64 a0_1, .int .i64 a0_2, .string a0_3, .slice Ao11 y184.length co11, .slice A0_5 l0_5.length c0_5] 49 (0, 0)) tq_92 hg (Kd.R_ne HO189.out BK179.out (by decide))) <| p_ (blk_grown (g := gb180) (o := .cells #[.int .i64 0, .int .i64 0, .int .i64 0, .string (⟨#[]⟩ : ByteArray), .slice none 0 0, .slice none 0 0] 49 (0, 0)) tq_157 hg (Kd.R_ne HO189.out BK180.out (by decide))) <| p_ (Kd.R_over' (by (with_reducible repeat (first | apply Kd.R_alloc | apply Kd.R_drewN | apply Kd.R_drew)); exact HO186.out) (Kd.R_typed (by (with_reducible repeat (first | apply Kd.R_alloc | apply Kd.R_drewN | apply Kd.R_drew)); exact HO189.out)) (by decide) hg) <| p_ (hb) <| a_ (ho); clear BK179 BK180 HO186 HB HO189; obtain ⟨BK179, BK180, HO186, HB, HO192⟩ := z_; clear ho hb hg hat; obtain ⟨Ao17, co17, eo17⟩ := Kd.R_slice HO192.out; subst eo17; have hcz18_0 := bc_ BK179.out 0; have hcz18_1 := bc_ BK179.out 1; have hcz18_2 := bc_ BK179.out 2; have hcz18_3 := bc_ BK179.out 3; have hcz18_4 := bc_ BK179.out 4; have hcz18_5 := bc_ BK179.out 5; have hfz18_0 := blk_frozen BK179.out 0; have hfz18_1 := blk_frozen BK179.out 1; have hfz18_2 := blk_frozen BK179.out 2; have hfz18_3 := blk_frozen BK179.out 3; have hfz18_4 := blk_frozen BK179.out 4; have hfz18_5 := blk_frozen BK179.out 5; have hcz19_0 := bc_ BK180.out 0; have hcz19_1 := bc_ BK180.out 1; have hcz19_2 := bc_ BK180.out 2; have hcz19_3 := bc_ BK180.out 3; have hcz19_4 := bc_ BK180.out 4; have hcz19_5 := bc_ BK180.out 5; have hfz19_0 := blk_frozen BK180.out 0; have hfz19_1 := blk_frozen BK180.out 1; have hfz19_2 := blk_frozen BK180.out 2; have hfz19_3 := blk_frozen BK180.out 3; have hfz19_4 := blk_frozen BK180.out 4; have hfz19_5 := blk_frozen BK180.out 5))
   refine bodyPost_ret (results_cell_row rfl _ _ gb180 49 #[.int .i64 a0_0, .int .i64 a0_1, .int .i64 a0_2, .string a0_3, .slice Ao11 y184.length co11, .slice Ao17 y190.length co17] (0, 0) _ rfl (by (with_reducible repeat (first | refine blk_drewN ?_ _ | refine blk_drew ?_ | refine blk_alloc ?_ _)); refine blk_put (cs := #[.int .i64 a0_0, .int .i64 a0_1, .int .i64 a0_2, .string a0_3, .slice Ao11 y184.length co11, .slice none 0 0]) ?_ 5 _ rfl; (with_reducible repeat (first | refine blk_drewN ?_ _ | refine blk_drew ?_ | refine blk_alloc ?_ _)); refine blk_put (cs := #[.int .i64 a0_0, .int .i64 a0_1, .int .i64 a0_2, .string a0_3, .slice none 0 0, .slice none 0 0]) ?_ 4 _ rfl; (with_reducible repeat (first | refine blk_drewN ?_ _ | refine blk_drew ?_ | refine blk_alloc ?_ _)); refine blk_put (cs := #[.int .i64 a0_0, .int .i64 a0_1, .int .i64 a0_2, .string (⟨#[]⟩ : ByteArray), .slice none 0 0, .slice none 0 0]) ?_ 3 _ rfl; (with_reducible repeat (first | refine blk_drewN ?_ _ | refine blk_drew ?_ | refine blk_alloc ?_ _)); refine blk_put (cs := #[.int .i64 a0_0, .int .i64 a0_1, .int .i64 0, .string (⟨#[]⟩ : ByteArray), .slice none 0 0, .slice none 0 0]) ?_ 2 _ rfl; (with_reducible repeat (first | refine blk_drewN ?_ _ | refine blk_drew ?_ | refine blk_alloc ?_ _)); refine blk_put (cs := #[.int .i64 a0_0, .int .i64 0, .int .i64 0, .string (⟨#[]⟩ : ByteArray), .slice none 0 0, .slice none 0 0]) ?_ 1 _ rfl; (with_reducible repeat (first | refine blk_drewN ?_ _ | refine blk_drew ?_ | refine blk_alloc ?_ _)); refine blk_put (cs := #[.int .i64 0, .int .i64 0, .int .i64 0, .string (⟨#[]⟩ : ByteArray), .slice none 0 0, .slice none 0 0]) ?_ 0 _ rfl; (with_reducible repeat (first | refine blk_drewN ?_ _ | refine blk_drew ?_ | refine blk_alloc ?_ _)); refine blk_far ?_ NB180_179.out _; (with_reducible repeat (first | refine blk_drewN ?_ _ | refine blk_drew ?_ | refine blk_alloc ?_ _)); exact BK180.out) Try.underlying49 rfl (by kernel_rfl)) rfl ?_
   exact ⟨_, _, tq_7, (by (with_reducible repeat (first | apply Kd.R_alloc | apply Kd.R_drewN | apply Kd.R_drew)); exact Kd.R_mono (Kd.R_far (p := ⟨gb180, 5, none⟩) (Kd.R_far (p := ⟨gb180, 4, none⟩) (Kd.R_far (p := ⟨gb180, 3, none⟩) (Kd.R_far (p := ⟨gb180, 2, none⟩) (Kd.R_far (p := ⟨gb180, 1, none⟩) (Kd.R_far (p := ⟨gb180, 0, none⟩) (Kd.R_far (p := ⟨gb179, 5, none⟩) (Kd.R_types (Kd.R_types HO186.out BK179.out (by decide)) BK180.out (by decide)) (fun _ hk => hk.1.2) (.slice Ao17 y190.length co17)) (fun _ hk => hk.2) (.int .i64 a0_0)) (fun _ hk => hk.2) (.int .i64 a0_1)) (fun _ hk => hk.2) (.int .i64 a0_2)) (fun _ hk => hk.2) (.string a0_3)) (fun _ hk => hk.2) (.slice Ao11 y184.length co11)) (fun _ hk => hk.2) (.slice Ao17 y190.length co17)) (fun _ hk => trivial)), (by (with_reducible repeat (first | apply Kd.R_alloc | apply Kd.R_drewN | apply Kd.R_drew)); exact Kd.R_mono (Kd.R_far (p := ⟨gb180, 5, none⟩) (Kd.R_far (p := ⟨gb180, 4, none⟩) (Kd.R_far (p := ⟨gb180, 3, none⟩) (Kd.R_far (p := ⟨gb180, 2, none⟩) (Kd.R_far (p := ⟨gb180, 1, none⟩) (Kd.R_far (p := ⟨gb180, 0, none⟩) (Kd.R_far (p := ⟨gb179, 5, none⟩) (Kd.R_types (Kd.R_types HO192.out BK179.out (by decide)) BK180.out (by decide)) (fun _ hk => hk.1.2) (.slice Ao17 y190.length co17)) (fun _ hk => hk.2) (.int .i64 a0_0)) (fun _ hk => hk.2) (.int .i64 a0_1)) (fun _ hk => hk.2) (.int .i64 a0_2)) (fun _ hk => hk.2) (.string a0_3)) (fun _ hk => hk.2) (.slice Ao11 y184.length co11)) (fun _ hk => hk.2) (.slice Ao17 y190.length co17)) (fun _ hk => trivial)), tq_37⟩
  ·rw [if_neg c3] at H
   exact absurd H (by simp)
 ·rw [if_neg c2] at H
  exact absurd H (by simp)

end Go.Proofs.Ytcdnfkoahajhhaa.PFnExactWithEntry
