/- Contracts of Go functions, written by a program of ours over the print of the kit: each says that the call returns what the Lean function beside it computes. Conditions: as each theorem states them. -/
import Derived.Test.YtcdnfkoahajhhaaPkFnExactCleanOk
import Derived.Test.YtcdnfkoahajhhaaPFnExactCleanOkx0
import Derived.Test.YtcdnfkoahajhhaaPFnExactCleanOkx14
namespace Go.Proofs.Ytcdnfkoahajhhaa.PFnExactCleanOk
open Go.RowKit Go.Proofs.YtcdnfkoahajhhaaW.PrintWords Go.Proofs.YtcdnfkoahajhhaaW.PrintLast Go.Proofs.YtcdnfkoahajhhaaW.PrintMore
attribute [local go_sem] max2_int min2_int max_two min_two max_three min_three max_four min_four   -- for this text's walks alone
set_option linter.unusedVariables false
set_option linter.unusedSimpArgs false

/-! ### laws_eqCellS: function 161 -/
def laws_eqCellS.l0 : Nat → List (S206) → List (S206) → Int → Option (Bool)
 | 0, _, _, _ => none
 | k + 1, x0, x1, x5 => if x5 < (x0.length : Int) then (if 0 ≤ x5 then (if x5 < (x1.length : Int) then ((laws_eqCell.f ((rd_T206 x0 x5).f0) ((rd_T206 x0 x5).f1) ((rd_T206 x0 x5).f2) ((rd_T206 x1 x5).f0) ((rd_T206 x1 x5).f1) ((rd_T206 x1 x5).f2)).bind fun t387 => (if t387 = true then (laws_eqCellS.l0 k x0 x1 (wrap64 (x5 + 1))) else (some false))) else (none)) else (none)) else (some true)
def laws_eqCellS.f (k : Nat) (l0 : List (S206)) (l1 : List (S206)) : Option (Bool) := if (l0.length : Int) = (l1.length : Int) then (laws_eqCellS.l0 k l0 l1 0) else (some false)
theorem laws_eqCellS.mono_l : ∀ k, (∀ y0 y1 y2, LeO (laws_eqCellS.l0 k y0 y1 y2) (laws_eqCellS.l0 (k + 1) y0 y1 y2))
 | 0 => fun _ _ _ r h => by simp [laws_eqCellS.l0] at h
 | k + 1 => by
  have ih0 := laws_eqCellS.mono_l k
  ·intro y0 y1 y2
   unfold laws_eqCellS.l0
   repeat' first
   | (with_reducible exact ih0 ..)
   | (with_reducible exact LeO.refl _)
   | (with_reducible exact LeO.none _)
   | (with_reducible refine LeO.ite ?_ ?_)
   | (with_reducible refine LeO.bind ?_ (fun _ => ?_))
   | exact ih0 ..
   | exact LeO.none _
   | refine LeO.ite ?_ ?_
   | refine LeO.bind ?_ (fun _ => ?_)
theorem laws_eqCellS.mono : ∀ a0 a1 k, LeO (laws_eqCellS.f k a0 a1) (laws_eqCellS.f (k + 1) a0 a1) := by
 intro a0 a1 k
 have ih0 := laws_eqCellS.mono_l k
 unfold laws_eqCellS.f
 repeat' first
   | (with_reducible exact ih0 ..)
   | (with_reducible exact LeO.refl _)
   | (with_reducible exact LeO.none _)
   | (with_reducible refine LeO.ite ?_ ?_)
   | (with_reducible refine LeO.bind ?_ (fun _ => ?_))
   | exact ih0 ..
   | exact LeO.none _
   | refine LeO.ite ?_ ?_
   | refine LeO.bind ?_ (fun _ => ?_)
def laws_eqCellS.T6 : Bool × List (List Nat × List Nat) := (true, [([], []), ([], []), ([0, 1], [0, 1]), ([2], [2]), ([], []), ([], []), ([4, 5], [4, 5]), ([6], [6]), ([3, 7], [3, 7]), ([8], [8])])
def laws_eqCellS.B6 : List Nat := [0, 0, 3, 7, 0, 0, 48, 112, 255, 511]
theorem laws_eqCellS.tab6 : rtab .any (opsOf Try.f161 6) = laws_eqCellS.T6 := by kernel_rfl
theorem laws_eqCellS.bits6 : waitsOk laws_eqCellS.T6.2 laws_eqCellS.B6 = true := by kernel_rfl
set_option maxHeartbeats 8000000 in
set_option maxRecDepth 100000 in
theorem laws_eqCellS.calls (k : Nat) (A0 : Option Addr) (c0 : Nat) (l0 : List (S206)) (A1 : Option Addr) (c1 : Nat) (l1 : List (S206)) (r : Bool) (w : World) (hr0 : Kd.C k206 w A0 l0.length l0) (hc0 : l0.length ≤ c0) (hr1 : Kd.C k206 w A1 l1.length l1) (hc1 : l1.length ≤ c1) (h : laws_eqCellS.f k l0 l1 = some r) :
  Calls Try.prog 161 #[.slice A0 l0.length c0, .slice A1 l1.length c1] w fun e w' => e = .returned (.bool r) ∧ Below w.heap.size w w' := by
 have hu206 := Try.underlying206
 have HR0 := Aside0.mk hr0
 have HC0 := Aside0.mk hc0
 clear hr0 hc0
 have HR1 := Aside0.mk hr1
 have HC1 := Aside0.mk hc1
 clear hr1 hc1
 have HB := Aside0.mk (Below.refl w.heap.size w)
 have H : (if (l0.length : Int) = (l1.length : Int) then (laws_eqCellS.l0 k l0 l1 0) else (some false)) = some r := h
 clear h
 by_cases c3 : (l0.length : Int) = (l1.length : Int)
 ·rw [if_pos c3] at H
  have c3b0 : ((l0.length : Int) == (l1.length : Int)) = true := beq_iff_eq.mpr c3
  have c3b1 : ((l0.length : Int) != (l1.length : Int)) = false := bne_eq_false_iff_eq.mpr c3
  have c3b2 : (l0.length == l1.length) = true := by first | simpa using c3 | (simp at c3 ⊢; omega)
  clear c3
  have H' := Aside0.mk H
  clear H
  go_enter Try.func161, Try.ntmps161
  go_wp2
  go_loopg [5] k (fun kq v5 w' => ∃ (x5_1 : Int), v5 = .int .i64 x5_1 ∧ Aside0 (laws_eqCellS.l0 kq l0 l1 x5_1 = some r) ∧ Aside0 (kq ≤ k) ∧ Aside0 (Below w.heap.size w w'))
  case atStart => exact ⟨(0), tq_7, H', ⟨Nat.le_refl _⟩, ⟨tq_0⟩⟩
  case round =>
   clear H'
   try clear c1
   try clear p2
   try clear c3
   try clear c3b0
   try clear c3b1
   try clear c3b2
   obtain ⟨x5_1, rfl, HA, HK1, HB⟩ := hrel
   cases gk with
   | zero => exact absurd HA.out (by simp [laws_eqCellS.l0])
   | succ k1 =>
    have H := HA.out
    clear HA
    simp only [laws_eqCellS.l0] at H
    by_cases c4 : x5_1 < (l0.length : Int)
    ·rw [if_pos c4] at H
     have c4b0 : decide (x5_1 < (l0.length : Int)) = true := decide_eq_true c4
     clear c4
     by_cases c5 : 0 ≤ x5_1
     ·rw [if_pos c5] at H
      have c5b0 : decide (0 ≤ x5_1) = true := decide_eq_true c5
      clear c5
      by_cases c6 : x5_1 < (l1.length : Int)
      ·rw [if_pos c6] at H
       have c6b0 : decide (x5_1 < (l1.length : Int)) = true := decide_eq_true c6
       clear c6
       replace H := Option.bind_eq_some_iff.mp H
       obtain ⟨t387, A70, H⟩ := H
       replace H : (if t387 = true then (laws_eqCellS.l0 k1 l0 l1 (wrap64 (x5_1 + 1))) else (some false)) = some r := H
       have A7 := Aside0.mk A70
       clear A70
       by_cases c8 : t387 = true
       ·subst c8
        have H1 : (laws_eqCellS.l0 k1 l0 l1 (wrap64 (x5_1 + 1))) = some r := by rw [if_pos rfl] at H; exact H
        clear H
        have H := H1
        clear H1
        have H' := Aside0.mk H
        clear H
        try go_wp2
        have n0_ := Aside0.mk (below_drew1 HB.out)
        clear HB
        have HB := n0_
        clear n0_
        have p385 : 0 ≤ (x5_1 : Int) := of_decide_eq_true tq_3
        have q385 : x5_1 < (l0.length : Int) := of_decide_eq_true tq_3
        obtain ⟨ad385, e385, hx385_0, hx385_1, hx385_2⟩ := at_T206 HR0.out x5_1 p385 q385
        have hw385_2 := hx385_2
        have hw385_1 := hx385_1
        have hw385_0 := hx385_0
        cases e385
        replace hx385_0 := hx_ HB.out hx385_0
        replace hx385_1 := hx_ HB.out hx385_1
        replace hx385_2 := hx_ HB.out hx385_2
        replace p385 := eq_true p385
        replace q385 := eq_true q385
        have p386 : 0 ≤ (x5_1 : Int) := of_decide_eq_true tq_3
        have q386 : x5_1 < (l1.length : Int) := of_decide_eq_true tq_3
        obtain ⟨ad386, e386, hx386_0, hx386_1, hx386_2⟩ := at_T206 HR1.out x5_1 p386 q386
        have hw386_2 := hx386_2
        have hw386_1 := hx386_1
        have hw386_0 := hx386_0
        cases e386
        replace hx386_0 := hx_ HB.out hx386_0
        replace hx386_1 := hx_ HB.out hx386_1
        replace hx386_2 := hx_ HB.out hx386_2
        replace p386 := eq_true p386
        replace q386 := eq_true q386
        refine start_ (n := 10) (S := fun w' => w'.cell? (ad385.add ((x5_1).toNat * 3)) = some (.int .i64 ((rd_T206 l0 x5_1).f0)) ∧ w'.cell? ⟨(ad385.add ((x5_1).toNat * 3)).block, (ad385.add ((x5_1).toNat * 3)).off + 1, none⟩ = some (.string ((rd_T206 l0 x5_1).f1)) ∧ w'.cell? ⟨(ad385.add ((x5_1).toNat * 3)).block, (ad385.add ((x5_1).toNat * 3)).off + 2, none⟩ = some (.bool ((rd_T206 l0 x5_1).f2)) ∧ w'.cell? (ad386.add ((x5_1).toNat * 3)) = some (.int .i64 ((rd_T206 l1 x5_1).f0)) ∧ w'.cell? ⟨(ad386.add ((x5_1).toNat * 3)).block, (ad386.add ((x5_1).toNat * 3)).off + 1, none⟩ = some (.string ((rd_T206 l1 x5_1).f1)) ∧ w'.cell? ⟨(ad386.add ((x5_1).toNat * 3)).block, (ad386.add ((x5_1).toNat * 3)).off + 2, none⟩ = some (.bool ((rd_T206 l1 x5_1).f2))) (ds := []) bq_0 (by kernel_rfl) rfl rfl ⟨((HB.out.cell (World.block_lt_of_cell? w _ hw385_0)).trans hw385_0), ((HB.out.cell (World.block_lt_of_cell? w _ hw385_1)).trans hw385_1), ((HB.out.cell (World.block_lt_of_cell? w _ hw385_2)).trans hw385_2), ((HB.out.cell (World.block_lt_of_cell? w _ hw386_0)).trans hw386_0), ((HB.out.cell (World.block_lt_of_cell? w _ hw386_1)).trans hw386_1), ((HB.out.cell (World.block_lt_of_cell? w _ hw386_2)).trans hw386_2)⟩ (fun hHeld => ?_); refine with_tabW laws_eqCellS.tab6 laws_eqCellS.bits6 (fun HT_ HW_ => ?_)
        generalize wr.drew = w9 at HB hx385_0 hx385_1 hx385_2 hx386_0 hx386_1 hx386_2 hHeld ⊢
        refine yq_ (i := 0) (N := some 17) bq_1 (any_of HT_.out (by kernel_rfl)) ?_
        refine yq_ (i := 1) (N := some 18) bq_2 (any_of HT_.out (by kernel_rfl)) ?_
        refine yq_ (i := 2) (N := some 19) bq_3 (any_of HT_.out (by kernel_rfl)) ?_
        refine yq_ (i := 4) (N := some 21) bq_4 (any_of HT_.out (by kernel_rfl)) ?_
        refine yq_ (i := 5) (N := some 22) bq_5 (any_of HT_.out (by kernel_rfl)) ?_
        refine yq_ (i := 6) (N := some 23) bq_6 (any_of HT_.out (by kernel_rfl)) ?_
        refine tk_ (i := 3) (N := some 20) bq_7 (take_ofW HT_.out HW_.out (by kernel_rfl)) hHeld ?_
        refine tk_ (i := 7) (N := some 24) bq_8 (take_ofW HT_.out HW_.out (by kernel_rfl)) hHeld ?_
        refine one_ (i := 8) (N := some 25) bq_9 rfl rfl (one_of HT_.out (by kernel_rfl)) (by decide) (fun K hK => ?_)
        refine goes_ Try.func206 (by kernel_rfl) rfl #[.agg #[.int .i64 ((rd_T206 l0 x5_1).f0), .string ((rd_T206 l0 x5_1).f1), .bool ((rd_T206 l0 x5_1).f2)], .agg #[.int .i64 ((rd_T206 l1 x5_1).f0), .string ((rd_T206 l1 x5_1).f1), .bool ((rd_T206 l1 x5_1).f2)]] (by rfl) rfl rfl tq_1 ?_
        with_reducible refine (laws_eqCell.calls ((rd_T206 l0 x5_1).f0) ((rd_T206 l0 x5_1).f1) ((rd_T206 l0 x5_1).f2) ((rd_T206 l1 x5_1).f0) ((rd_T206 l1 x5_1).f1) ((rd_T206 l1 x5_1).f2) true _ A7.out).mono ?_
        rintro e w10 ⟨rfl, hb⟩
        refine ⟨_, rfl, ?_⟩
        have n0_ := Aside0.mk (below_step tq_0 hb)
        clear HB
        have HB := n0_
        clear n0_
        (try clear hb)
        (try clear hb2)
        (try clear hk)
        (try clear hi)
        refine hK.out _ _ ⟨((HB.out.cell (World.block_lt_of_cell? w _ hw385_0)).trans hw385_0), ((HB.out.cell (World.block_lt_of_cell? w _ hw385_1)).trans hw385_1), ((HB.out.cell (World.block_lt_of_cell? w _ hw385_2)).trans hw385_2), ((HB.out.cell (World.block_lt_of_cell? w _ hw386_0)).trans hw386_0), ((HB.out.cell (World.block_lt_of_cell? w _ hw386_1)).trans hw386_1), ((HB.out.cell (World.block_lt_of_cell? w _ hw386_2)).trans hw386_2)⟩ (fun hHeld => ?_)
        clear hK K
        refine nm_ (some 25) ?_
        refine yq_ (i := 9) (N := some 26) bq_10 (any_of HT_.out (by kernel_rfl)) ?_
        refine done_ (done_of HT_.out (by kernel_rfl)) ?_
        try go_wp2
        go_roundg k1
        case measure => have := HK1.out; omega
        case rel => exact ⟨(wrap64 (x5_1 + 1)), tq_7, H', ⟨tq_96⟩, ⟨tq_0⟩⟩
       ·replace c8 := Bool.eq_false_iff.mpr c8
        subst c8
        have H1 : (some false) = some r := by rw [if_neg (show ¬ (false = true) by decide)] at H; exact H
        clear H
        have H := H1
        clear H1
        obtain rfl := Option.some.inj H
        try go_wp2
        have n0_ := Aside0.mk (below_drew1 HB.out)
        clear HB
        have HB := n0_
        clear n0_
        have p385 : 0 ≤ (x5_1 : Int) := of_decide_eq_true tq_3
        have q385 : x5_1 < (l0.length : Int) := of_decide_eq_true tq_3
        obtain ⟨ad385, e385, hx385_0, hx385_1, hx385_2⟩ := at_T206 HR0.out x5_1 p385 q385
        have hw385_2 := hx385_2
        have hw385_1 := hx385_1
        have hw385_0 := hx385_0
        cases e385
        replace hx385_0 := hx_ HB.out hx385_0
        replace hx385_1 := hx_ HB.out hx385_1
        replace hx385_2 := hx_ HB.out hx385_2
        replace p385 := eq_true p385
        replace q385 := eq_true q385
        have p386 : 0 ≤ (x5_1 : Int) := of_decide_eq_true tq_3
        have q386 : x5_1 < (l1.length : Int) := of_decide_eq_true tq_3
        obtain ⟨ad386, e386, hx386_0, hx386_1, hx386_2⟩ := at_T206 HR1.out x5_1 p386 q386
        have hw386_2 := hx386_2
        have hw386_1 := hx386_1
        have hw386_0 := hx386_0
        cases e386
        replace hx386_0 := hx_ HB.out hx386_0
        replace hx386_1 := hx_ HB.out hx386_1
        replace hx386_2 := hx_ HB.out hx386_2
        replace p386 := eq_true p386
        replace q386 := eq_true q386
        refine start_ (n := 10) (S := fun w' => w'.cell? (ad385.add ((x5_1).toNat * 3)) = some (.int .i64 ((rd_T206 l0 x5_1).f0)) ∧ w'.cell? ⟨(ad385.add ((x5_1).toNat * 3)).block, (ad385.add ((x5_1).toNat * 3)).off + 1, none⟩ = some (.string ((rd_T206 l0 x5_1).f1)) ∧ w'.cell? ⟨(ad385.add ((x5_1).toNat * 3)).block, (ad385.add ((x5_1).toNat * 3)).off + 2, none⟩ = some (.bool ((rd_T206 l0 x5_1).f2)) ∧ w'.cell? (ad386.add ((x5_1).toNat * 3)) = some (.int .i64 ((rd_T206 l1 x5_1).f0)) ∧ w'.cell? ⟨(ad386.add ((x5_1).toNat * 3)).block, (ad386.add ((x5_1).toNat * 3)).off + 1, none⟩ = some (.string ((rd_T206 l1 x5_1).f1)) ∧ w'.cell? ⟨(ad386.add ((x5_1).toNat * 3)).block, (ad386.add ((x5_1).toNat * 3)).off + 2, none⟩ = some (.bool ((rd_T206 l1 x5_1).f2))) (ds := []) bq_0 (by kernel_rfl) rfl rfl ⟨((HB.out.cell (World.block_lt_of_cell? w _ hw385_0)).trans hw385_0), ((HB.out.cell (World.block_lt_of_cell? w _ hw385_1)).trans hw385_1), ((HB.out.cell (World.block_lt_of_cell? w _ hw385_2)).trans hw385_2), ((HB.out.cell (World.block_lt_of_cell? w _ hw386_0)).trans hw386_0), ((HB.out.cell (World.block_lt_of_cell? w _ hw386_1)).trans hw386_1), ((HB.out.cell (World.block_lt_of_cell? w _ hw386_2)).trans hw386_2)⟩ (fun hHeld => ?_); refine with_tabW laws_eqCellS.tab6 laws_eqCellS.bits6 (fun HT_ HW_ => ?_)
        generalize wr.drew = w11 at HB hx385_0 hx385_1 hx385_2 hx386_0 hx386_1 hx386_2 hHeld ⊢
        refine yq_ (i := 0) (N := some 17) bq_1 (any_of HT_.out (by kernel_rfl)) ?_
        refine yq_ (i := 1) (N := some 18) bq_2 (any_of HT_.out (by kernel_rfl)) ?_
        refine yq_ (i := 2) (N := some 19) bq_3 (any_of HT_.out (by kernel_rfl)) ?_
        refine yq_ (i := 4) (N := some 21) bq_4 (any_of HT_.out (by kernel_rfl)) ?_
        refine yq_ (i := 5) (N := some 22) bq_5 (any_of HT_.out (by kernel_rfl)) ?_
        refine yq_ (i := 6) (N := some 23) bq_6 (any_of HT_.out (by kernel_rfl)) ?_
        refine tk_ (i := 3) (N := some 20) bq_7 (take_ofW HT_.out HW_.out (by kernel_rfl)) hHeld ?_
        refine tk_ (i := 7) (N := some 24) bq_8 (take_ofW HT_.out HW_.out (by kernel_rfl)) hHeld ?_
        refine one_ (i := 8) (N := some 25) bq_9 rfl rfl (one_of HT_.out (by kernel_rfl)) (by decide) (fun K hK => ?_)
        refine goes_ Try.func206 (by kernel_rfl) rfl #[.agg #[.int .i64 ((rd_T206 l0 x5_1).f0), .string ((rd_T206 l0 x5_1).f1), .bool ((rd_T206 l0 x5_1).f2)], .agg #[.int .i64 ((rd_T206 l1 x5_1).f0), .string ((rd_T206 l1 x5_1).f1), .bool ((rd_T206 l1 x5_1).f2)]] (by rfl) rfl rfl tq_1 ?_
        with_reducible refine (laws_eqCell.calls ((rd_T206 l0 x5_1).f0) ((rd_T206 l0 x5_1).f1) ((rd_T206 l0 x5_1).f2) ((rd_T206 l1 x5_1).f0) ((rd_T206 l1 x5_1).f1) ((rd_T206 l1 x5_1).f2) false _ A7.out).mono ?_
        rintro e w12 ⟨rfl, hb⟩
        refine ⟨_, rfl, ?_⟩
        have n0_ := Aside0.mk (below_step tq_0 hb)
        clear HB
        have HB := n0_
        clear n0_
        (try clear hb)
        (try clear hb2)
        (try clear hk)
        (try clear hi)
        refine hK.out _ _ ⟨((HB.out.cell (World.block_lt_of_cell? w _ hw385_0)).trans hw385_0), ((HB.out.cell (World.block_lt_of_cell? w _ hw385_1)).trans hw385_1), ((HB.out.cell (World.block_lt_of_cell? w _ hw385_2)).trans hw385_2), ((HB.out.cell (World.block_lt_of_cell? w _ hw386_0)).trans hw386_0), ((HB.out.cell (World.block_lt_of_cell? w _ hw386_1)).trans hw386_1), ((HB.out.cell (World.block_lt_of_cell? w _ hw386_2)).trans hw386_2)⟩ (fun hHeld => ?_)
        clear hK K
        refine nm_ (some 25) ?_
        refine yq_ (i := 9) (N := some 26) bq_10 (any_of HT_.out (by kernel_rfl)) ?_
        refine done_ (done_of HT_.out (by kernel_rfl)) ?_
        try go_wp2
        go_ret
        exact ⟨tq_2, tq_0⟩
      ·rw [if_neg c6] at H
       exact absurd H (by simp)
     ·rw [if_neg c5] at H
      exact absurd H (by simp)
    ·rw [if_neg c4] at H
     have c4b0 : decide (x5_1 < (l0.length : Int)) = false := decide_eq_false c4
     clear c4
     obtain rfl := Option.some.inj H
     go_wp2
     go_ret
     exact ⟨tq_2, tq_0⟩
 ·rw [if_neg c3] at H
  have c3b0 : ((l0.length : Int) == (l1.length : Int)) = false := beq_eq_false_iff_ne.mpr c3
  have c3b1 : ((l0.length : Int) != (l1.length : Int)) = true := bne_iff_ne.mpr c3
  have c3b2 : (l0.length == l1.length) = false := by first | simpa using c3 | (simp at c3 ⊢; omega)
  obtain rfl := Option.some.inj H
  go_enter Try.func161, Try.ntmps161
  go_wp2
  go_ret
  exact ⟨tq_2, tq_0⟩

/-! ### laws_eqMemory: function 77 -/
def laws_eqMemory.f (k : Nat) (a0_0 : ByteArray) (l0_1 : List (S206)) (a1_0 : ByteArray) (l1_1 : List (S206)) : Option (Bool) := if a0_0.toList = a1_0.toList then ((laws_eqCellS.f k l0_1 l1_1).bind fun t390 => (if t390 = true then (some true) else (some false))) else (some false)
theorem laws_eqMemory.mono : ∀ a0 a1 a2 a3 k, LeO (laws_eqMemory.f k a0 a1 a2 a3) (laws_eqMemory.f (k + 1) a0 a1 a2 a3) := by
 intro a0 a1 a2 a3 k
 unfold laws_eqMemory.f
 repeat' first
   | (with_reducible exact laws_eqCellS.mono ..)
   | (with_reducible exact LeO.refl _)
   | (with_reducible exact LeO.none _)
   | (with_reducible refine LeO.ite ?_ ?_)
   | (with_reducible refine LeO.bind ?_ (fun _ => ?_))
   | exact laws_eqCellS.mono ..
   | exact LeO.none _
   | refine LeO.ite ?_ ?_
   | refine LeO.bind ?_ (fun _ => ?_)
set_option maxHeartbeats 8000000 in
set_option maxRecDepth 100000 in
theorem laws_eqMemory.calls (k : Nat) (a0_0 : ByteArray) (A0_1 : Option Addr) (c0_1 : Nat) (l0_1 : List (S206)) (a1_0 : ByteArray) (A1_1 : Option Addr) (c1_1 : Nat) (l1_1 : List (S206)) (r : Bool) (w : World) (hr0_1 : Kd.C k206 w A0_1 l0_1.length l0_1) (hc0_1 : l0_1.length ≤ c0_1) (hr1_1 : Kd.C k206 w A1_1 l1_1.length l1_1) (hc1_1 : l1_1.length ≤ c1_1) (h : laws_eqMemory.f k a0_0 l0_1 a1_0 l1_1 = some r) :
  Calls Try.prog 77 #[.agg #[.string a0_0, .slice A0_1 l0_1.length c0_1], .agg #[.string a1_0, .slice A1_1 l1_1.length c1_1]] w fun e w' => e = .returned (.bool r) ∧ Below w.heap.size w w' := by
 have hu113 := Try.underlying113
 have HR0_1 := Aside0.mk hr0_1
 have HC0_1 := Aside0.mk hc0_1
 clear hr0_1 hc0_1
 have HR1_1 := Aside0.mk hr1_1
 have HC1_1 := Aside0.mk hc1_1
 clear hr1_1 hc1_1
 have HB := Aside0.mk (Below.refl w.heap.size w)
 have H : (if a0_0.toList = a1_0.toList then ((laws_eqCellS.f k l0_1 l1_1).bind fun t390 => (if t390 = true then (some true) else (some false))) else (some false)) = some r := h
 clear h
 by_cases c3 : a0_0.toList = a1_0.toList
 ·rw [if_pos c3] at H
  have c3b0 : (a0_0.toList == a1_0.toList) = true := beq_iff_eq.mpr c3
  have c3b1 : (a0_0.toList != a1_0.toList) = false := bne_eq_false_iff_eq.mpr c3
  clear c3
  replace H := Option.bind_eq_some_iff.mp H
  obtain ⟨t390, A40, H⟩ := H
  replace H : (if t390 = true then (some true) else (some false)) = some r := H
  have A4 := Aside0.mk A40
  clear A40
  by_cases c5 : t390 = true
  ·subst c5
   have H1 : (some true) = some r := by rw [if_pos rfl] at H; exact H
   clear H
   have H := H1
   clear H1
   obtain rfl := Option.some.inj H
   go_enter Try.func77, Try.ntmps77
   go_wp2_with (first | ((with_reducible refine gate_dst (N := 2) rfl ?_); refine box_event ?hg (N := 2) ?hd (cs := #[.string a0_0, .slice A0_1 l0_1.length c0_1]) (t := 113) ?hr ?_; (case hd => rfl); (case hg => rfl); (case hr => first | (go_simp; done) | (go_simp; rfl)); intro gb388 hg w6 hbox hb; have z_ := p_ (below_step tq_0 hb) <| p_ (hbox) <| p_ (gb_ hg tq_0) <| a_ (gb_ hg tq_0); clear HB; obtain ⟨HB, BK388, GW388, GE388⟩ := z_; clear hb hbox hg) | ((with_reducible refine gate_dst (N := 3) rfl ?_); refine box_event ?hg (N := 3) ?hd (cs := #[.string a1_0, .slice A1_1 l1_1.length c1_1]) (t := 113) ?hr ?_; (case hd => rfl); (case hg => rfl); (case hr => first | (go_simp; done) | (go_simp; rfl)); intro gb389 hg w7 hbox hb; have z_ := p_ (blk_below tq_50 hb) <| p_ (below_step tq_42 hb) <| p_ (hbox) <| p_ (gb_ hg tq_42) <| p_ (gb_ hg tq_42) <| p_ (ltne_ hg (blk_lt tq_50)) <| a_ (gtne_ hg (blk_lt tq_50)); clear BK388 HB; obtain ⟨BK388, HB, BK389, GW389, GE389, NB388_389, NB389_388⟩ := z_; clear hb hbox hg; have hnb8 := NB388_389.out; have hnc8 := NB389_388.out; have hcz9_0 := bc_ BK388.out 0; have hcz9_1 := bc_ BK388.out 1; have hfz9_0 := blk_frozen BK388.out 0; have hfz9_1 := blk_frozen BK388.out 1; have hcz10_0 := bc_ BK389.out 0; have hcz10_1 := bc_ BK389.out 1; have hfz10_0 := blk_frozen BK389.out 0; have hfz10_1 := blk_frozen BK389.out 1) | ((with_reducible refine gate_callee (f := 161) rfl ?_); refine goesL_ (some 14) rfl rfl Try.func161 (by kernel_rfl) rfl #[.slice A0_1 l0_1.length c0_1, .slice A1_1 l1_1.length c1_1] rfl tq_1 ?_; (with_reducible refine (laws_eqCellS.calls k _ _ l0_1 _ _ l1_1 true _ ?side1 ?side2 ?side3 ?side4 A4.out).mono ?_); (case side1 => exact tq_4); (case side2 => exact HC0_1.out); (case side3 => exact tq_77); (case side4 => exact HC1_1.out); rintro e w11 ⟨rfl, hb⟩; refine ⟨_, rfl, ?_⟩; have z_ := p_ (blk_below tq_50 hb) <| p_ (blk_below (by (with_reducible repeat (first | refine blk_drewN ?_ _ | refine blk_drew ?_ | refine blk_alloc ?_ _)); exact BK389.out) hb) <| a_ (below_step tq_70 hb); clear BK388 BK389 HB; obtain ⟨BK388, BK389, HB⟩ := z_; (try clear hb); (try clear hb2); (try clear hk); (try clear hi)))
   go_ret
   exact ⟨tq_2, tq_70⟩
  ·replace c5 := Bool.eq_false_iff.mpr c5
   subst c5
   have H1 : (some false) = some r := by rw [if_neg (show ¬ (false = true) by decide)] at H; exact H
   clear H
   have H := H1
   clear H1
   obtain rfl := Option.some.inj H
   go_enter Try.func77, Try.ntmps77
   go_wp2_with (first | ((with_reducible refine gate_dst (N := 2) rfl ?_); refine box_event ?hg (N := 2) ?hd (cs := #[.string a0_0, .slice A0_1 l0_1.length c0_1]) (t := 113) ?hr ?_; (case hd => rfl); (case hg => rfl); (case hr => first | (go_simp; done) | (go_simp; rfl)); intro gb388 hg w12 hbox hb; have z_ := p_ (below_step tq_0 hb) <| p_ (hbox) <| p_ (gb_ hg tq_0) <| a_ (gb_ hg tq_0); clear HB; obtain ⟨HB, BK388, GW388, GE388⟩ := z_; clear hb hbox hg) | ((with_reducible refine gate_dst (N := 3) rfl ?_); refine box_event ?hg (N := 3) ?hd (cs := #[.string a1_0, .slice A1_1 l1_1.length c1_1]) (t := 113) ?hr ?_; (case hd => rfl); (case hg => rfl); (case hr => first | (go_simp; done) | (go_simp; rfl)); intro gb389 hg w13 hbox hb; have z_ := p_ (blk_below tq_50 hb) <| p_ (below_step tq_42 hb) <| p_ (hbox) <| p_ (gb_ hg tq_42) <| p_ (gb_ hg tq_42) <| p_ (ltne_ hg (blk_lt tq_50)) <| a_ (gtne_ hg (blk_lt tq_50)); clear BK388 HB; obtain ⟨BK388, HB, BK389, GW389, GE389, NB388_389, NB389_388⟩ := z_; clear hb hbox hg; have hnb14 := NB388_389.out; have hnc14 := NB389_388.out; have hcz15_0 := bc_ BK388.out 0; have hcz15_1 := bc_ BK388.out 1; have hfz15_0 := blk_frozen BK388.out 0; have hfz15_1 := blk_frozen BK388.out 1; have hcz16_0 := bc_ BK389.out 0; have hcz16_1 := bc_ BK389.out 1; have hfz16_0 := blk_frozen BK389.out 0; have hfz16_1 := blk_frozen BK389.out 1) | ((with_reducible refine gate_callee (f := 161) rfl ?_); refine goesL_ (some 14) rfl rfl Try.func161 (by kernel_rfl) rfl #[.slice A0_1 l0_1.length c0_1, .slice A1_1 l1_1.length c1_1] rfl tq_1 ?_; (with_reducible refine (laws_eqCellS.calls k _ _ l0_1 _ _ l1_1 false _ ?side1 ?side2 ?side3 ?side4 A4.out).mono ?_); (case side1 => exact tq_4); (case side2 => exact HC0_1.out); (case side3 => exact tq_77); (case side4 => exact HC1_1.out); rintro e w17 ⟨rfl, hb⟩; refine ⟨_, rfl, ?_⟩; have z_ := p_ (blk_below tq_50 hb) <| p_ (blk_below (by (with_reducible repeat (first | refine blk_drewN ?_ _ | refine blk_drew ?_ | refine blk_alloc ?_ _)); exact BK389.out) hb) <| a_ (below_step tq_70 hb); clear BK388 BK389 HB; obtain ⟨BK388, BK389, HB⟩ := z_; (try clear hb); (try clear hb2); (try clear hk); (try clear hi)))
   go_ret
   exact ⟨tq_2, tq_70⟩
 ·rw [if_neg c3] at H
  have c3b0 : (a0_0.toList == a1_0.toList) = false := beq_eq_false_iff_ne.mpr c3
  have c3b1 : (a0_0.toList != a1_0.toList) = true := bne_iff_ne.mpr c3
  obtain rfl := Option.some.inj H
  go_enter Try.func77, Try.ntmps77
  go_wp2_with (first | ((with_reducible refine gate_dst (N := 2) rfl ?_); refine box_event ?hg (N := 2) ?hd (cs := #[.string a0_0, .slice A0_1 l0_1.length c0_1]) (t := 113) ?hr ?_; (case hd => rfl); (case hg => rfl); (case hr => first | (go_simp; done) | (go_simp; rfl)); intro gb388 hg w18 hbox hb; have z_ := p_ (below_step tq_0 hb) <| p_ (hbox) <| p_ (gb_ hg tq_0) <| a_ (gb_ hg tq_0); clear HB; obtain ⟨HB, BK388, GW388, GE388⟩ := z_; clear hb hbox hg) | ((with_reducible refine gate_dst (N := 3) rfl ?_); refine box_event ?hg (N := 3) ?hd (cs := #[.string a1_0, .slice A1_1 l1_1.length c1_1]) (t := 113) ?hr ?_; (case hd => rfl); (case hg => rfl); (case hr => first | (go_simp; done) | (go_simp; rfl)); intro gb389 hg w19 hbox hb; have z_ := p_ (blk_below tq_50 hb) <| p_ (below_step tq_42 hb) <| p_ (hbox) <| p_ (gb_ hg tq_42) <| p_ (gb_ hg tq_42) <| p_ (ltne_ hg (blk_lt tq_50)) <| a_ (gtne_ hg (blk_lt tq_50)); clear BK388 HB; obtain ⟨BK388, HB, BK389, GW389, GE389, NB388_389, NB389_388⟩ := z_; clear hb hbox hg; have hnb20 := NB388_389.out; have hnc20 := NB389_388.out; have hcz21_0 := bc_ BK388.out 0; have hcz21_1 := bc_ BK388.out 1; have hfz21_0 := blk_frozen BK388.out 0; have hfz21_1 := blk_frozen BK388.out 1; have hcz22_0 := bc_ BK389.out 0; have hcz22_1 := bc_ BK389.out 1; have hfz22_0 := blk_frozen BK389.out 0; have hfz22_1 := blk_frozen BK389.out 1))
  go_ret
  exact ⟨tq_2, tq_70⟩

end Go.Proofs.Ytcdnfkoahajhhaa.PFnExactCleanOk
